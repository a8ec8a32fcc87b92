/-
  Parts of an abstract machine over the model, of the program's data and of what its functions compute: the texts F17 F18 F20 F19 LawC LawD ModP LawP F31 AbsQ F21 F22 F32, merged.
-/
import Derived.Test.YtmdnombjckcfoaaDoorBg
set_option linter.unusedSimpArgs false
set_option linter.unusedVariables false
section
namespace Go.Proofs
open Go Go.Abs
set_option linter.unusedSimpArgs false
set_option maxRecDepth 10000
namespace Tryd
open Es (runs met met_succ met_length met_at)
/-- What a day's loop owns. -/
structure TickJ (o : St) (nx : Nat) (c : Es.Contract) (s : Es.State) (fh fu fm : Nat) (tm bt : TypeId) (rd : SObj) (ms : List Es.Mark) (st : S) : Prop where
  nxt : nx + 6 ≤ st.nx
  mrk : st.o fm 0 = some (.blk 5 s.marks.length tm (rowsOf mrkC ms))
  len : ms.length = s.marks.length
  off : st.o (nx + 2) 0 = some (.blk 1 1 bt (rowOf [.v (.bool (c.off.contains s.day))]))
  con : st.o (nx + 3) 0 = some (.blk 7 1 27 (rowOf [.v (.int .i64 c.parties), slD 1 intC c.holders, slD 5 untC c.units, slD 7 actC c.acts, slD 16 clsC c.clauses, .v (.int .i64 c.days), slD 1 intC c.off]))
  sta : st.o (nx + 4) 0 = some (.blk 4 1 40 (rowOf [.v (.int .i64 s.day), .ms fh 0 1 0 s.holders.length, .ms fu 0 1 0 s.used.length, .ms fm 0 5 0 s.marks.length]))
  rcd : st.o (nx + 5) 0 = some rd
  old : ∀ f i, f < nx → ¬ (f = fm ∧ i = 0) → st.o f i = o f i
theorem tickJ {o : St} {nx : Nat} {c : Es.Contract} {s : Es.State} {fh fu fm : Nat} {tm bt : TypeId} {rd : SObj} (hf : fm < nx) : RunJ c s.day fh s.holders.length fu s.used.length fm s.marks.length (nx + 3) (nx + 4) (nx + 6) tm (TickJ o nx c s fh fu fm tm bt rd) where
  mrk _ _ h := ⟨h.mrk, h.len⟩
  con _ _ h := h.con
  sta _ _ h := h.sta
  nxt _ _ h := h.nxt
  same ms st st' h hn hs := ⟨Nat.le_trans h.nxt hn, (hs fm 0 (by omega)).trans h.mrk, h.len, (hs _ 0 (by omega)).trans h.off, (hs _ 0 (by omega)).trans h.con, (hs _ 0 (by omega)).trans h.sta, (hs _ 0 (by omega)).trans h.rcd,
    fun f i hf' hne => (hs f i (by omega)).trans (h.old f i hf' hne)⟩
  lt := ⟨by omega, by omega, by omega⟩
theorem tickJ_end {o o2 o3 : St} {nx nx2 n3 : Nat} {c : Es.Contract} {s : Es.State} {fh fu fm : Nat} {tm bt : TypeId} {rd : SObj} {ms ms' : List Es.Mark} (h : TickJ o nx c s fh fu fm tm bt rd ms ⟨o2, nx2⟩) (hf : fm < nx) (hn : nx2 ≤ n3) (hm : o3 fm 0 = some (.blk 5 s.marks.length tm (rowsOf mrkC ms')))
    (hl : ms'.length = s.marks.length) (ho : ∀ f j, f < nx2 → ¬ (f = fm ∧ j = 0) → ¬ (f = nx + 5 ∧ j = 0) → o3 f j = o2 f j) :
    TickJ o nx c s fh fu fm tm bt rd ms' ⟨St.set o3 (nx + 5) 0 (some rd), n3⟩ ∧ nx2 ≤ n3 ∧ ∀ f j, nx + 6 ≤ f → f < nx2 → St.set o3 (nx + 5) 0 (some rd) f j = o2 f j := by
  have hx := h.nxt
  simp only at hx
  have hs : ∀ f j, f < nx2 → ¬ (f = fm ∧ j = 0) → ¬ (f = nx + 5 ∧ j = 0) → St.set o3 (nx + 5) 0 (some rd) f j = o2 f j := fun f j h1 h2 h3 => by
    simp only [St.set]; rw [if_neg h3]; exact ho f j h1 h2 h3
  refine ⟨⟨by simp only; omega, by simp only [St.set]; rw [if_neg (by omega)]; exact hm, hl, (hs _ 0 (by omega) (by omega) (by omega)).trans h.off, (hs _ 0 (by omega) (by omega) (by omega)).trans h.con, (hs _ 0 (by omega) (by omega) (by omega)).trans h.sta,
    by simp [St.set], fun f i hf' hne => (hs f i (by omega) hne (by omega)).trans (h.old f i hf' hne)⟩, hn, fun f j h1 h2 => hs f j h2 (by omega) (by omega)⟩
theorem tick_spec (X : D → Value → Prop) (N : Nat) (r : Option Nat) (b : Nat) (c : Es.Contract) (s : Es.State) (fh fu fm : Nat) (th tu tm : TypeId) (o : St) (nx : Nat) (K : D → S → Prop) (hs : HasSt o fh fu fm th tu tm s) (hx : fh < nx ∧ fu < nx ∧ fm < nx ∧ fh ≠ fm ∧ fu ≠ fm)
    (hm : s.marks.length = c.clauses.length) (hl : c.clauses.length ≤ 400) (ho : c.off.length ≤ 4611686018427387903) (hso : ∀ a b : Nat, a < b → b < c.off.length → Es.at_ c.off (a : Int) < Es.at_ c.off (b : Int))
    (hkd : ∀ i : Nat, i < c.clauses.length → (Es.at_ c.clauses (i : Int)).kind = 1 ∨ (Es.at_ c.clauses (i : Int)).kind = 2 ∨ (Es.at_ c.clauses (i : Int)).kind = 3 ∨ (Es.at_ c.clauses (i : Int)).kind = 4)
    (hleft : ∀ i : Nat, i < c.clauses.length → runs (Es.at_ s.marks (i : Int)) = true → 1 ≤ (Es.at_ s.marks (i : Int)).left ∧ (Es.at_ s.marks (i : Int)).left ≤ 400)
    (hk : ∀ o' nx', Wrote o nx fm tm (met (Es.dayMark c s) s.marks c.clauses.length) o' nx' → K (.tup []) ⟨o', nx'⟩) :
    ACall { P := prog, G := gl, X := X, N := N, r := r, b := b } 49 [conD c, stO s.day fh s.holders.length fu s.used.length fm s.marks.length] ⟨o, nx⟩ K := by
  obtain ⟨pos, hbs⟩ := bsearch_spec c.off s.day ho hso
  refine acall_ofA (M := { P := prog, G := gl, X := X, N := N, r := r, b := b }) func49 rfl results49 ntmps49 (by simp) fun b => ?_
  simp only [go_sem, ↓reduceIte, decide_eq_true_eq, reduceCtorEq, Nat.reduceEqDiff, Nat.reduceLT, Nat.reduceLeDiff, Nat.reduceAdd, Nat.reduceSub, Nat.reduceMul, Nat.reduceGT, Int.reduceNeg, Int.reduceToNat, and_true, true_and, and_false, false_and, List.getElem?_toArray, List.getElem?_cons_zero, List.getElem?_cons_succ, List.cons_append, List.nil_append, if_true, if_false, Option.getD_some, Option.isSome_some, Bool.false_eq_true, List.append_nil, List.drop_zero, List.drop_succ_cons, Bool.cond_false_right, Bool.cond_false_left, Bool.cond_true_left, Bool.cond_true_right, ite_self, Bool.not_true, Bool.not_false, cond_true, cond_false, List.size_toArray, implies_true, true_implies, false_implies, List.all_cons, List.all_nil, List.nodup_cons, List.nodup_nil, List.mem_cons, List.not_mem_nil, or_false, false_or, not_false_eq_true, decide_true, Bool.and_true, Bool.and_self]
  have g1 : (nx = nx + 1) = False := by simp only [eq_iff_iff, iff_false]; omega
  simp only [go_sem, ↓reduceIte, decide_eq_true_eq, reduceCtorEq, Nat.reduceEqDiff, Nat.reduceLT, Nat.reduceLeDiff, Nat.reduceAdd, Nat.reduceSub, Nat.reduceMul, Nat.reduceGT, Int.reduceNeg, Int.reduceToNat, and_true, true_and, and_false, false_and, List.getElem?_toArray, List.getElem?_cons_zero, List.getElem?_cons_succ, List.cons_append, List.nil_append, if_true, if_false, Option.getD_some, Option.isSome_some, Bool.false_eq_true, List.append_nil, List.drop_zero, List.drop_succ_cons, Bool.cond_false_right, Bool.cond_false_left, Bool.cond_true_left, Bool.cond_true_right, ite_self, Bool.not_true, Bool.not_false, cond_true, cond_false, List.size_toArray, implies_true, true_implies, false_implies, List.all_cons, List.all_nil, List.nodup_cons, List.nodup_nil, List.mem_cons, List.not_mem_nil, or_false, false_or, not_false_eq_true, decide_true, Bool.and_true, Bool.and_self, g1]
  refine call_at M_P M_G hbs ?_
  have g2 : (nx = nx + 1 + 1) = False := by simp only [eq_iff_iff, iff_false]; omega
  have g3 : (nx + 1 = nx + 1 + 1) = False := by simp only [eq_iff_iff, iff_false]; omega
  simp only [go_sem, ↓reduceIte, decide_eq_true_eq, reduceCtorEq, Nat.reduceEqDiff, Nat.reduceLT, Nat.reduceLeDiff, Nat.reduceAdd, Nat.reduceSub, Nat.reduceMul, Nat.reduceGT, Int.reduceNeg, Int.reduceToNat, and_true, true_and, and_false, false_and, List.getElem?_toArray, List.getElem?_cons_zero, List.getElem?_cons_succ, List.cons_append, List.nil_append, if_true, if_false, Option.getD_some, Option.isSome_some, Bool.false_eq_true, List.append_nil, List.drop_zero, List.drop_succ_cons, Bool.cond_false_right, Bool.cond_false_left, Bool.cond_true_left, Bool.cond_true_right, ite_self, Bool.not_true, Bool.not_false, cond_true, cond_false, List.size_toArray, implies_true, true_implies, false_implies, List.all_cons, List.all_nil, List.nodup_cons, List.nodup_nil, List.mem_cons, List.not_mem_nil, or_false, false_or, not_false_eq_true, decide_true, Bool.and_true, Bool.and_self, g1, g2, g3]
  refine running_spec _ _ _ _ c s.day fh s.holders.length fu s.used.length fm s.marks.length _ _ _ ?_
  simp only [go_sem, ↓reduceIte, decide_eq_true_eq, reduceCtorEq, Nat.reduceEqDiff, Nat.reduceLT, Nat.reduceLeDiff, Nat.reduceAdd, Nat.reduceSub, Nat.reduceMul, Nat.reduceGT, Int.reduceNeg, Int.reduceToNat, and_true, true_and, and_false, false_and, List.getElem?_toArray, List.getElem?_cons_zero, List.getElem?_cons_succ, List.cons_append, List.nil_append, if_true, if_false, Option.getD_some, Option.isSome_some, Bool.false_eq_true, List.append_nil, List.drop_zero, List.drop_succ_cons, Bool.cond_false_right, Bool.cond_false_left, Bool.cond_true_left, Bool.cond_true_right, ite_self, Bool.not_true, Bool.not_false, cond_true, cond_false, List.size_toArray, implies_true, true_implies, false_implies, List.all_cons, List.all_nil, List.nodup_cons, List.nodup_nil, List.mem_cons, List.not_mem_nil, or_false, false_or, not_false_eq_true, decide_true, Bool.and_true, Bool.and_self, g1, g2, g3]
  refine awp_rangeFunc rfl (by simp) (gf := 101) (caps := [.mp (nx + 3 + 1) 0 4 0 0, .mp (nx + 3) 0 7 0 0]) (by simp only [go_sem, ↓reduceIte, decide_eq_true_eq, reduceCtorEq, Nat.reduceEqDiff, Nat.reduceLT, Nat.reduceLeDiff, Nat.reduceAdd, Nat.reduceSub, Nat.reduceMul, Nat.reduceGT, Int.reduceNeg, Int.reduceToNat, and_true, true_and, and_false, false_and, List.getElem?_toArray, List.getElem?_cons_zero, List.getElem?_cons_succ, List.cons_append, List.nil_append, if_true, if_false, Option.getD_some, Option.isSome_some, Bool.false_eq_true, List.append_nil, List.drop_zero, List.drop_succ_cons, Bool.cond_false_right, Bool.cond_false_left, Bool.cond_true_left, Bool.cond_true_right, ite_self, Bool.not_true, Bool.not_false, cond_true, cond_false, List.size_toArray, implies_true, true_implies, false_implies, List.all_cons, List.all_nil, List.nodup_cons, List.nodup_nil, List.mem_cons, List.not_mem_nil, or_false, false_or, not_false_eq_true, decide_true, Bool.and_true, Bool.and_self]) (by simp only [go_sem, ↓reduceIte, decide_eq_true_eq, reduceCtorEq, Nat.reduceEqDiff, Nat.reduceLT, Nat.reduceLeDiff, Nat.reduceAdd, Nat.reduceSub, Nat.reduceMul, Nat.reduceGT, Int.reduceNeg, Int.reduceToNat, and_true, true_and, and_false, false_and, List.getElem?_toArray, List.getElem?_cons_zero, List.getElem?_cons_succ, List.cons_append, List.nil_append, if_true, if_false, Option.getD_some, Option.isSome_some, Bool.false_eq_true, List.append_nil, List.drop_zero, List.drop_succ_cons, Bool.cond_false_right, Bool.cond_false_left, Bool.cond_true_left, Bool.cond_true_right, ite_self, Bool.not_true, Bool.not_false, cond_true, cond_false, List.size_toArray, implies_true, true_implies, false_implies, List.all_cons, List.all_nil, List.nodup_cons, List.nodup_nil, List.mem_cons, List.not_mem_nil, or_false, false_or, not_false_eq_true, decide_true, Bool.and_true, Bool.and_self]) ?_
  intro X2 l rd bz dn hround
  refine running1_spec X2 _ _ _ l c s.day fh s.holders.length fu s.used.length fm s.marks.length (nx + 3) (nx + 4) (nx + 6) tm (TickJ o nx c s fh fu fm tm 4 rd) (tickJ hx.2.2.1) hm (by omega) (Es.dayMark c s) s.marks ?_ _ ?_ _ ?_
  · intro N' b' i st hi hJ hr
    refine around_ctx (hround _ _ _ (by simp) hJ.rcd ?_)
    refine wpA_sound _ _ _ _ ?_
    have j1 := hJ.mrk
    have j2 := hJ.off
    have j3 := hJ.con
    have j4 := hJ.sta
    have j5 := hJ.rcd
    have j6 := hJ.nxt
    have j7 := hJ.len
    obtain ⟨o2, nx2⟩ := st
    simp only at j1 j2 j3 j4 j5 j6
    have e0 : ∀ {a b : Nat}, a ≠ b → (a = b) = False := fun h => by simp [h]
    have k1 : (nx + 1 + 1 + 1 + 1 + 1 = nx2) = False := e0 (by omega)
    have k2 : (fm = nx2) = False := e0 (by omega)
    have k3 : (nx2 = fm) = False := e0 (by omega)
    have k4 : (nx + 1 + 1 = nx2) = False := e0 (by omega)
    have k5 : (fm = nx + 1 + 1 + 1 + 1 + 1) = False := e0 (by omega)
    have k6 : (nx2 = nx + 1 + 1 + 1 + 1 + 1) = False := e0 (by omega)
    have k7 : (nx + 1 + 1 = nx + 1 + 1 + 1 + 1 + 1) = False := e0 (by omega)
    have k8 : (nx + 1 + 1 = fm) = False := e0 (by omega)
    have k9 : (nx + 1 + 1 + 1 + 1 + 1 = fm) = False := e0 (by omega)
    simp only [go_sem, ↓reduceIte, decide_eq_true_eq, reduceCtorEq, Nat.reduceEqDiff, Nat.reduceLT, Nat.reduceLeDiff, Nat.reduceAdd, Nat.reduceSub, Nat.reduceMul, Nat.reduceGT, Int.reduceNeg, Int.reduceToNat, and_true, true_and, and_false, false_and, List.getElem?_toArray, List.getElem?_cons_zero, List.getElem?_cons_succ, List.cons_append, List.nil_append, if_true, if_false, Option.getD_some, Option.isSome_some, Bool.false_eq_true, List.append_nil, List.drop_zero, List.drop_succ_cons, Bool.cond_false_right, Bool.cond_false_left, Bool.cond_true_left, Bool.cond_true_right, ite_self, Bool.not_true, Bool.not_false, cond_true, cond_false, List.size_toArray, implies_true, true_implies, false_implies, List.all_cons, List.all_nil, List.nodup_cons, List.nodup_nil, List.mem_cons, List.not_mem_nil, or_false, false_or, not_false_eq_true, decide_true, Bool.and_true, Bool.and_self, envAt, k1, j5]
    refine wpA_sound _ _ _ _ ?_
    have hlft := hleft i (by omega) (by rw [met_at _ _ _ _ (Nat.le_refl _)] at hr; exact hr)
    rw [← met_at (Es.dayMark c s) s.marks i i (Nat.le_refl _)] at hlft
    have him : i < (met (Es.dayMark c s) s.marks i).length := by rw [met_length]; exact hi
    generalize hms : met (Es.dayMark c s) s.marks i = ms at *
    have hwr : IntKind.i64.wrap ((Es.at_ ms (i : Int)).left - 1) = (Es.at_ ms (i : Int)).left - 1 := wrap_i64 _ (by omega) (by omega)
    simp only [go_sem, ↓reduceIte, decide_eq_true_eq, reduceCtorEq, Nat.reduceEqDiff, Nat.reduceLT, Nat.reduceLeDiff, Nat.reduceAdd, Nat.reduceSub, Nat.reduceMul, Nat.reduceGT, Int.reduceNeg, Int.reduceToNat, and_true, true_and, and_false, false_and, List.getElem?_toArray, List.getElem?_cons_zero, List.getElem?_cons_succ, List.cons_append, List.nil_append, if_true, if_false, Option.getD_some, Option.isSome_some, Bool.false_eq_true, List.append_nil, List.drop_zero, List.drop_succ_cons, Bool.cond_false_right, Bool.cond_false_left, Bool.cond_true_left, Bool.cond_true_right, ite_self, Bool.not_true, Bool.not_false, cond_true, cond_false, List.size_toArray, implies_true, true_implies, false_implies, List.all_cons, List.all_nil, List.nodup_cons, List.nodup_nil, List.mem_cons, List.not_mem_nil, or_false, false_or, not_false_eq_true, decide_true, Bool.and_true, Bool.and_self, j1, j2, k1, k2, k3, k4, k5, k6, k7, k8, k9, him, hi, setC_mrk1, at_set, List.length_set, List.set_set, hwr]
    have hend : ∀ (o3 : St) (n3 : Nat) (m' : Es.Mark), m' = Es.dayMark c s i (Es.at_ ms (i : Int)) → nx2 ≤ n3 → o3 fm 0 = some (.blk 5 s.marks.length tm (rowsOf mrkC (ms.set i m'))) → (∀ f j, f < nx2 → ¬ (f = fm ∧ j = 0) → ¬ (f = nx + 5 ∧ j = 0) → o3 f j = o2 f j) →
        TickJ o nx c s fh fu fm tm 4 rd (ms.set i (Es.dayMark c s i (Es.at_ ms (i : Int)))) ⟨St.set o3 (nx + 5) 0 (some rd), n3⟩ ∧ nx2 ≤ n3 ∧ ∀ f j, nx + 6 ≤ f → f < nx2 → St.set o3 (nx + 5) 0 (some rd) f j = o2 f j := fun o3 n3 m' hm' h1 h2 h3 => by
      rw [← hm']; exact tickJ_end hJ hx.2.2.1 h1 h2 (by simpa using j7) h3
    have hA : Es.dayMark c s i (Es.at_ ms (i : Int)) = Es.at_ ms (i : Int) → ∀ B, TickJ o nx c s fh fu fm tm 4 rd (ms.set i (Es.dayMark c s i (Es.at_ ms (i : Int)))) ⟨St.set (St.set o2 nx2 0 B) (nx + 5) 0 (some rd), nx2 + 1⟩ ∧ nx2 ≤ nx2 + 1 ∧ ∀ f j, nx + 6 ≤ f → f < nx2 → St.set (St.set o2 nx2 0 B) (nx + 5) 0 (some rd) f j = o2 f j := fun h B =>
      hend _ _ _ h.symm (Nat.le_succ _) (by simp only [St.set]; rw [if_neg (by omega), set_at him]; exact j1) (fun f j h1 h2 h3 => by simp only [St.set]; rw [if_neg (by omega)])
    refine ite_cases (fun hp => ?_) (fun hp => ?_)
    · refine ite_cases (fun hb => ?_) (fun hb => ?_)
      · refine ite_cases (fun ho2 => ?_) (fun ho2 => ?_)
        · exact hA (by unfold Es.dayMark; rw [if_pos (by simp_all)]) _
        · (have hdm : Es.dayMark c s i (Es.at_ ms (i : Int)) = if (Es.at_ ms (i : Int)).left - 1 == 0 then Es.older (Es.at_ c.clauses (i : Int)) { Es.at_ ms (i : Int) with left := (Es.at_ ms (i : Int)).left - 1 } else { Es.at_ ms (i : Int) with left := (Es.at_ ms (i : Int)).left - 1 } := by
             unfold Es.dayMark; rw [if_neg (by simp_all)]
           refine ite_cases (fun hz => ?_) (fun hz => ?_)
           · rw [if_pos hz] at hdm
             refine awp_plan ((.op 0 (.op 1 (.op 2 (.op 4 (.op 3 (.op 5 .done))))))) [5] mix (by kernel_rfl) ?_
             simp only [go_sem, ↓reduceIte, decide_eq_true_eq, reduceCtorEq, Nat.reduceEqDiff, Nat.reduceLT, Nat.reduceLeDiff, Nat.reduceAdd, Nat.reduceSub, Nat.reduceMul, Nat.reduceGT, Int.reduceNeg, Int.reduceToNat, and_true, true_and, and_false, false_and, List.getElem?_toArray, List.getElem?_cons_zero, List.getElem?_cons_succ, List.cons_append, List.nil_append, if_true, if_false, Option.getD_some, Option.isSome_some, Bool.false_eq_true, List.append_nil, List.drop_zero, List.drop_succ_cons, Bool.cond_false_right, Bool.cond_false_left, Bool.cond_true_left, Bool.cond_true_right, ite_self, Bool.not_true, Bool.not_false, cond_true, cond_false, List.size_toArray, implies_true, true_implies, false_implies, List.all_cons, List.all_nil, List.nodup_cons, List.nodup_nil, List.mem_cons, List.not_mem_nil, or_false, false_or, not_false_eq_true, decide_true, Bool.and_true, Bool.and_self, j1, j2, k1, k2, k3, k4, k5, k6, k7, k8, k9, hi]
             refine call_at M_P M_G (elapsed_spec _ (hkd i (by omega))) ?_
             simp only [go_sem, ↓reduceIte, decide_eq_true_eq, reduceCtorEq, Nat.reduceEqDiff, Nat.reduceLT, Nat.reduceLeDiff, Nat.reduceAdd, Nat.reduceSub, Nat.reduceMul, Nat.reduceGT, Int.reduceNeg, Int.reduceToNat, and_true, true_and, and_false, false_and, List.getElem?_toArray, List.getElem?_cons_zero, List.getElem?_cons_succ, List.cons_append, List.nil_append, if_true, if_false, Option.getD_some, Option.isSome_some, Bool.false_eq_true, List.append_nil, List.drop_zero, List.drop_succ_cons, Bool.cond_false_right, Bool.cond_false_left, Bool.cond_true_left, Bool.cond_true_right, ite_self, Bool.not_true, Bool.not_false, cond_true, cond_false, List.size_toArray, implies_true, true_implies, false_implies, List.all_cons, List.all_nil, List.nodup_cons, List.nodup_nil, List.mem_cons, List.not_mem_nil, or_false, false_or, not_false_eq_true, decide_true, Bool.and_true, Bool.and_self, j1, j2, k1, k2, k3, k4, k5, k6, k7, k8, k9, hi]
             refine aged_spec _ _ _ _ _ fm i tm (ms.set i { Es.at_ ms (i : Int) with left := (Es.at_ ms (i : Int)).left - 1 }) _ _ _ (hkd i (by omega)) (by omega) (by simp [St.set, j7]) (by simpa using him) fun o3 n3 hw => ?_
             rw [at_set him, List.set_set] at hw
             simp only [go_sem, ↓reduceIte, decide_eq_true_eq, reduceCtorEq, Nat.reduceEqDiff, Nat.reduceLT, Nat.reduceLeDiff, Nat.reduceAdd, Nat.reduceSub, Nat.reduceMul, Nat.reduceGT, Int.reduceNeg, Int.reduceToNat, and_true, true_and, and_false, false_and, List.getElem?_toArray, List.getElem?_cons_zero, List.getElem?_cons_succ, List.cons_append, List.nil_append, if_true, if_false, Option.getD_some, Option.isSome_some, Bool.false_eq_true, List.append_nil, List.drop_zero, List.drop_succ_cons, Bool.cond_false_right, Bool.cond_false_left, Bool.cond_true_left, Bool.cond_true_right, ite_self, Bool.not_true, Bool.not_false, cond_true, cond_false, List.size_toArray, implies_true, true_implies, false_implies, List.all_cons, List.all_nil, List.nodup_cons, List.nodup_nil, List.mem_cons, List.not_mem_nil, or_false, false_or, not_false_eq_true, decide_true, Bool.and_true, Bool.and_self, k1, k2, k3, k4, k5, k6, k7, k8, k9]
             refine ⟨?_, hend o3 n3 _ hdm.symm (by have := hw.1; omega) (by have := hw.2.1; rw [List.length_set, j7] at this; exact this) (fun f j h1 h2 h3 => by rw [hw.2.2 f j (by omega) h2]; simp only [St.set]; rw [if_neg (by omega), if_neg (by omega), if_neg (by omega)])⟩
             rw [hw.2.2 _ 0 (by omega) (by omega)]
             simp only [St.set]; rw [if_neg (by omega), if_pos ⟨trivial, trivial⟩]
           · rw [if_neg hz] at hdm
             exact hend _ _ _ hdm.symm (Nat.le_succ _) (by simp only [St.set]; rw [if_pos ⟨trivial, trivial⟩]) (fun f j h1 h2 h3 => by simp only [St.set]; rw [if_neg (by omega), if_neg (by omega), if_neg (by omega)]))
      · (have hdm : Es.dayMark c s i (Es.at_ ms (i : Int)) = if (Es.at_ ms (i : Int)).left - 1 == 0 then Es.older (Es.at_ c.clauses (i : Int)) { Es.at_ ms (i : Int) with left := (Es.at_ ms (i : Int)).left - 1 } else { Es.at_ ms (i : Int) with left := (Es.at_ ms (i : Int)).left - 1 } := by
           unfold Es.dayMark; rw [if_neg (by simp_all)]
         refine ite_cases (fun hz => ?_) (fun hz => ?_)
         · rw [if_pos hz] at hdm
           refine awp_plan ((.op 0 (.op 1 (.op 2 (.op 4 (.op 3 (.op 5 .done))))))) [5] mix (by kernel_rfl) ?_
           simp only [go_sem, ↓reduceIte, decide_eq_true_eq, reduceCtorEq, Nat.reduceEqDiff, Nat.reduceLT, Nat.reduceLeDiff, Nat.reduceAdd, Nat.reduceSub, Nat.reduceMul, Nat.reduceGT, Int.reduceNeg, Int.reduceToNat, and_true, true_and, and_false, false_and, List.getElem?_toArray, List.getElem?_cons_zero, List.getElem?_cons_succ, List.cons_append, List.nil_append, if_true, if_false, Option.getD_some, Option.isSome_some, Bool.false_eq_true, List.append_nil, List.drop_zero, List.drop_succ_cons, Bool.cond_false_right, Bool.cond_false_left, Bool.cond_true_left, Bool.cond_true_right, ite_self, Bool.not_true, Bool.not_false, cond_true, cond_false, List.size_toArray, implies_true, true_implies, false_implies, List.all_cons, List.all_nil, List.nodup_cons, List.nodup_nil, List.mem_cons, List.not_mem_nil, or_false, false_or, not_false_eq_true, decide_true, Bool.and_true, Bool.and_self, j1, j2, k1, k2, k3, k4, k5, k6, k7, k8, k9, hi]
           refine call_at M_P M_G (elapsed_spec _ (hkd i (by omega))) ?_
           simp only [go_sem, ↓reduceIte, decide_eq_true_eq, reduceCtorEq, Nat.reduceEqDiff, Nat.reduceLT, Nat.reduceLeDiff, Nat.reduceAdd, Nat.reduceSub, Nat.reduceMul, Nat.reduceGT, Int.reduceNeg, Int.reduceToNat, and_true, true_and, and_false, false_and, List.getElem?_toArray, List.getElem?_cons_zero, List.getElem?_cons_succ, List.cons_append, List.nil_append, if_true, if_false, Option.getD_some, Option.isSome_some, Bool.false_eq_true, List.append_nil, List.drop_zero, List.drop_succ_cons, Bool.cond_false_right, Bool.cond_false_left, Bool.cond_true_left, Bool.cond_true_right, ite_self, Bool.not_true, Bool.not_false, cond_true, cond_false, List.size_toArray, implies_true, true_implies, false_implies, List.all_cons, List.all_nil, List.nodup_cons, List.nodup_nil, List.mem_cons, List.not_mem_nil, or_false, false_or, not_false_eq_true, decide_true, Bool.and_true, Bool.and_self, j1, j2, k1, k2, k3, k4, k5, k6, k7, k8, k9, hi]
           refine aged_spec _ _ _ _ _ fm i tm (ms.set i { Es.at_ ms (i : Int) with left := (Es.at_ ms (i : Int)).left - 1 }) _ _ _ (hkd i (by omega)) (by omega) (by simp [St.set, j7]) (by simpa using him) fun o3 n3 hw => ?_
           rw [at_set him, List.set_set] at hw
           simp only [go_sem, ↓reduceIte, decide_eq_true_eq, reduceCtorEq, Nat.reduceEqDiff, Nat.reduceLT, Nat.reduceLeDiff, Nat.reduceAdd, Nat.reduceSub, Nat.reduceMul, Nat.reduceGT, Int.reduceNeg, Int.reduceToNat, and_true, true_and, and_false, false_and, List.getElem?_toArray, List.getElem?_cons_zero, List.getElem?_cons_succ, List.cons_append, List.nil_append, if_true, if_false, Option.getD_some, Option.isSome_some, Bool.false_eq_true, List.append_nil, List.drop_zero, List.drop_succ_cons, Bool.cond_false_right, Bool.cond_false_left, Bool.cond_true_left, Bool.cond_true_right, ite_self, Bool.not_true, Bool.not_false, cond_true, cond_false, List.size_toArray, implies_true, true_implies, false_implies, List.all_cons, List.all_nil, List.nodup_cons, List.nodup_nil, List.mem_cons, List.not_mem_nil, or_false, false_or, not_false_eq_true, decide_true, Bool.and_true, Bool.and_self, k1, k2, k3, k4, k5, k6, k7, k8, k9]
           refine ⟨?_, hend o3 n3 _ hdm.symm (by have := hw.1; omega) (by have := hw.2.1; rw [List.length_set, j7] at this; exact this) (fun f j h1 h2 h3 => by rw [hw.2.2 f j (by omega) h2]; simp only [St.set]; rw [if_neg (by omega), if_neg (by omega), if_neg (by omega)])⟩
           rw [hw.2.2 _ 0 (by omega) (by omega)]
           simp only [St.set]; rw [if_neg (by omega), if_pos ⟨trivial, trivial⟩]
         · rw [if_neg hz] at hdm
           exact hend _ _ _ hdm.symm (Nat.le_succ _) (by simp only [St.set]; rw [if_pos ⟨trivial, trivial⟩]) (fun f j h1 h2 h3 => by simp only [St.set]; rw [if_neg (by omega), if_neg (by omega), if_neg (by omega)]))
    · exact hA (by unfold Es.dayMark; rw [if_pos (by simp_all)]) _
  · refine ⟨Nat.le_refl _, ?_, rfl, ?_, ?_, ?_, ?_, ?_⟩
    · simp only [S.push, St.set]
      repeat rw [if_neg (by omega)]
      exact hs.m
    · simp only [S.push, St.set]
      repeat first | rw [if_neg (by omega)] | rw [if_pos ⟨trivial, trivial⟩]
    · simp only [S.push, St.set]
      repeat first | rw [if_neg (by omega)] | rw [if_pos ⟨trivial, trivial⟩]
    · simp only [S.push, St.set]
      repeat first | rw [if_neg (by omega)] | rw [if_pos ⟨trivial, trivial⟩]
    · simp only [S.push, St.set]
      repeat first | rw [if_neg (by omega)] | rw [if_pos ⟨trivial, trivial⟩]
    · intro f j hf hne
      simp only [S.push, St.set]
      repeat rw [if_neg (by omega)]
  · intro st hJ
    refine .inl ⟨hJ.rcd, ?_⟩
    obtain ⟨o3, n3⟩ := st
    simp only [go_sem, ↓reduceIte, decide_eq_true_eq, reduceCtorEq, Nat.reduceEqDiff, Nat.reduceLT, Nat.reduceLeDiff, Nat.reduceAdd, Nat.reduceSub, Nat.reduceMul, Nat.reduceGT, Int.reduceNeg, Int.reduceToNat, and_true, true_and, and_false, false_and, List.getElem?_toArray, List.getElem?_cons_zero, List.getElem?_cons_succ, List.cons_append, List.nil_append, if_true, if_false, Option.getD_some, Option.isSome_some, Bool.false_eq_true, List.append_nil, List.drop_zero, List.drop_succ_cons, Bool.cond_false_right, Bool.cond_false_left, Bool.cond_true_left, Bool.cond_true_right, ite_self, Bool.not_true, Bool.not_false, cond_true, cond_false, List.size_toArray, implies_true, true_implies, false_implies, List.all_cons, List.all_nil, List.nodup_cons, List.nodup_nil, List.mem_cons, List.not_mem_nil, or_false, false_or, not_false_eq_true, decide_true, Bool.and_true, Bool.and_self]
    have := hJ.nxt
    simp only at this
    rw [hm] at hJ
    refine hk _ _ ⟨by omega, ?_, fun f j hf hne => ?_⟩
    · simp only [St.set]; rw [if_neg (by omega)]
      have h1 := hJ.mrk
      have h2 := hJ.len
      rw [h2]; exact h1
    · simp only [St.set]; rw [if_neg (by omega)]; exact hJ.old f j hf hne
end Tryd
end Go.Proofs
end
section
namespace Go.Proofs
open Go Go.Abs
set_option linter.unusedSimpArgs false
set_option linter.unusedVariables false
set_option maxRecDepth 10000
namespace Tryd
open Es (runs met met_succ met_length met_at)
/-- What an act's execution leaves. -/
structure Did (o : St) (nx fh fu fm : Nat) (th tu tm : TypeId) (s : Es.State) (o' : St) (nx' : Nat) : Prop where
  nxt : nx ≤ nx'
  has : HasSt o' fh fu fm th tu tm s
  old : ∀ f i, f < nx → ¬ (f = fm ∧ i = 0) → ¬ (f = fh ∧ i = 0) → ¬ (f = fu ∧ i = 0) → o' f i = o f i
theorem setC_one {α : Type} [Inhabited α] {f : α → Nat → D} {l : List α} {r : Nat} (hr : r < l.length) (d : D) (v : α) (h0 : f v 0 = d) (hf : ∀ a c, f a (c + 1) = .any) : setC (rowsOf f l) r 0 [d] = rowsOf f (l.set r v) := by
  funext r' c'
  simp only [setC, rowsOf, List.length_cons, List.length_nil]
  by_cases hr' : r' = r
  · subst hr'
    simp only [List.getD_eq_getElem?_getD, List.getElem?_set, hr, if_true, Option.getD_some, true_and]
    cases c' with
    | zero => rw [if_pos (by omega), h0]; rfl
    | succ c' => rw [if_neg (by omega), hf, hf]
  · rw [if_neg (by omega)]
    simp only [List.getD_eq_getElem?_getD, List.getElem?_set, if_neg (Ne.symm hr')]
theorem setC_int {l : List Int} {r : Nat} (hr : r < l.length) (v : Int) : setC (rowsOf intC l) r 0 [.v (.int .i64 v)] = rowsOf intC (l.set r v) := setC_one hr _ v rfl fun _ _ => rfl
theorem setC_boo {l : List Bool} {r : Nat} (hr : r < l.length) (v : Bool) : setC (rowsOf booC l) r 0 [.v (.bool v)] = rowsOf booC (l.set r v) := setC_one hr _ v rfl fun _ _ => rfl
/-- Where the act, its doer and the arguments lie. -/
structure DoR (c : Es.Contract) (s : Es.State) (act : Int) (fh fu fm : Nat) (o : St) (nx : Nat) (f6 f7 : Nat) (e : Env) (st : S) : Prop where
  nxt : nx + 3 ≤ f6 ∧ f6 < st.nx ∧ nx + 3 ≤ f7 ∧ f7 < st.nx ∧ f6 ≠ f7
  e3 : e 3 = .mp nx 0 7 0 0
  e4 : e 4 = .mp (nx + 1) 0 4 0 0
  e5 : e 5 = .mp (nx + 2) 0 1 0 0
  e6 : e 6 = .mp f6 0 7 0 0
  e7 : e 7 = .mp f7 0 1 0 0
  con : st.o nx 0 = some (.blk 7 1 27 (rowOf [.v (.int .i64 c.parties), slD 1 intC c.holders, slD 5 untC c.units, slD 7 actC c.acts, slD 16 clsC c.clauses, .v (.int .i64 c.days), slD 1 intC c.off]))
  sta : st.o (nx + 1) 0 = some (.blk 4 1 40 (rowOf [.v (.int .i64 s.day), .ms fh 0 1 0 s.holders.length, .ms fu 0 1 0 s.used.length, .ms fm 0 5 0 s.marks.length]))
  arg : st.o (nx + 2) 0 = some (.blk 1 1 3 (rowOf [.v (.int .i64 act)]))
  a : st.o f6 0 = some (.blk 7 1 53 (rowOf [.v (.int .i64 (Es.at_ c.acts act).kind), .v (.int .i64 (Es.at_ c.acts act).role), .v (.int .i64 (Es.at_ c.acts act).give), .v (.int .i64 (Es.at_ c.acts act).to), .v (.int .i64 (Es.at_ c.acts act).unit), .v (.int .i64 (Es.at_ c.acts act).lot.num), .v (.int .i64 (Es.at_ c.acts act).lot.den)]))
  who : st.o f7 0 = some (.blk 1 1 3 (rowOf [.v (.int .i64 (Es.doer c s act))]))
  old : ∀ f i, f < nx → st.o f i = o f i
set_option maxHeartbeats 4000000 in
theorem do_spec (X : D → Value → Prop) (N : Nat) (r : Option Nat) (b : Nat) (c : Es.Contract) (s : Es.State) (act : Int) (fh fu fm : Nat) (th tu tm : TypeId) (o : St) (nx : Nat) (K : D → S → Prop) (hs : HasSt o fh fu fm th tu tm s) (hx : fh < nx ∧ fu < nx ∧ fm < nx ∧ fh ≠ fm ∧ fu ≠ fm ∧ fh ≠ fu)
    (hm : s.marks.length = c.clauses.length) (hl : c.clauses.length ≤ 400) (hu : s.used.length = c.acts.length) (ha : 0 ≤ act ∧ act < Es.len c.acts)
    (hrole : (Es.at_ c.acts act).role ≠ -1 → 0 ≤ (Es.at_ c.acts act).role ∧ (Es.at_ c.acts act).role < Es.len s.holders)
    (hgive : (Es.at_ c.acts act).kind ≠ 1 → 0 ≤ (Es.at_ c.acts act).give ∧ (Es.at_ c.acts act).give < Es.len s.holders)
    (hkd : ∀ i : Nat, i < c.clauses.length → (Es.at_ c.clauses (i : Int)).kind = 1 ∨ (Es.at_ c.clauses (i : Int)).kind = 2 ∨ (Es.at_ c.clauses (i : Int)).kind = 3 ∨ (Es.at_ c.clauses (i : Int)).kind = 4)
    (hgot : ∀ i : Nat, i < c.clauses.length → runs (Es.at_ s.marks (i : Int)) = true → 0 ≤ (Es.at_ s.marks (i : Int)).got ∧ (Es.at_ s.marks (i : Int)).got ≤ 9)
    (hk : ∀ o' nx', Did o nx fh fu fm th tu tm (Es.doS c s act) o' nx' → K (.tup []) ⟨o', nx'⟩) :
    ACall { P := prog, G := gl, X := X, N := N, r := r, b := b } 50 [conD c, stO s.day fh s.holders.length fu s.used.length fm s.marks.length, .v (.int .i64 act)] ⟨o, nx⟩ K := by
  refine acall_wf fun hw => ?_
  simp only at hw
  refine acall_ofA (M := { P := prog, G := gl, X := X, N := N, r := r, b := b }) func50 rfl results50 ntmps50 (by simp) fun b => ?_
  simp only [go_sem, ↓reduceIte, decide_eq_true_eq, reduceCtorEq, Nat.reduceEqDiff, Nat.reduceLT, Nat.reduceLeDiff, Nat.reduceAdd, Nat.reduceSub, Nat.reduceMul, Nat.reduceGT, Int.reduceNeg, Int.reduceToNat, and_true, true_and, and_false, false_and, List.getElem?_toArray, List.getElem?_cons_zero, List.getElem?_cons_succ, List.cons_append, List.nil_append, if_true, if_false, Option.getD_some, Option.isSome_some, Bool.false_eq_true, List.append_nil, List.drop_zero, List.drop_succ_cons, Bool.cond_false_right, Bool.cond_false_left, Bool.cond_true_left, Bool.cond_true_right, ite_self, Bool.not_true, Bool.not_false, cond_true, cond_false, List.size_toArray, implies_true, true_implies, false_implies, List.all_cons, List.all_nil, List.nodup_cons, List.nodup_nil, List.mem_cons, List.not_mem_nil, or_false, false_or, not_false_eq_true, decide_true, Bool.and_true, Bool.and_self]
  have e0 : ∀ {a b : Nat}, a ≠ b → (a = b) = False := fun h => by simp [h]
  have g1 : (nx = nx + 1) = False := e0 (by omega)
  have g2 : (nx = nx + 1 + 1) = False := e0 (by omega)
  have g3 : (nx + 1 = nx + 1 + 1) = False := e0 (by omega)
  refine AWp.mono (Q := fun x e1 s1 => x = .normal ∧ (∃ f6 f7, DoR c s act fh fu fm o nx f6 f7 e1 s1)) ?_ ?_
  · refine awp_plan ((.op 0 (.op 1 (.op 2 (.op 3 (.op 4 (.op 5 (.op 6 (.op 7 (.alt 8 (.alt 9 (.op 10 (.op 11 (.op 12 .done))) (.alt 10 (.op 9 (.op 11 (.op 12 .done))) .dead)) (.alt 9 (.alt 8 (.op 10 (.op 11 (.op 12 .done))) (.alt 10 (.op 8 (.op 11 (.op 12 .done))) .dead)) (.alt 10 (.alt 8 (.op 9 (.op 11 (.op 12 .done))) (.alt 9 (.op 8 (.op 11 (.op 12 .done))) .dead)) .dead)))))))))))) [11, 12] mix (by kernel_rfl) ?_
    have hd := doer_spec c s act ha hrole
    simp only [go_sem, ↓reduceIte, decide_eq_true_eq, reduceCtorEq, Nat.reduceEqDiff, Nat.reduceLT, Nat.reduceLeDiff, Nat.reduceAdd, Nat.reduceSub, Nat.reduceMul, Nat.reduceGT, Int.reduceNeg, Int.reduceToNat, and_true, true_and, and_false, false_and, List.getElem?_toArray, List.getElem?_cons_zero, List.getElem?_cons_succ, List.cons_append, List.nil_append, if_true, if_false, Option.getD_some, Option.isSome_some, Bool.false_eq_true, List.append_nil, List.drop_zero, List.drop_succ_cons, Bool.cond_false_right, Bool.cond_false_left, Bool.cond_true_left, Bool.cond_true_right, ite_self, Bool.not_true, Bool.not_false, cond_true, cond_false, List.size_toArray, implies_true, true_implies, false_implies, List.all_cons, List.all_nil, List.nodup_cons, List.nodup_nil, List.mem_cons, List.not_mem_nil, or_false, false_or, not_false_eq_true, decide_true, Bool.and_true, Bool.and_self, g1, g2, g3]
    refine ⟨ha, ?_⟩
    have h2 : (nx + 1 + 1 + 1 = nx + 1 + 1 + 1 + 1) = False := e0 (by omega)
    have h3 : (nx + 1 + 1 + 1 + 1 = nx + 1 + 1 + 1) = False := e0 (by omega)
    have hH : ∀ o', SameB nx o o' → HasSt o' fh fu fm th tu tm s := fun o' h => ⟨(h fh 0 hx.1).trans hs.h, (h fu 0 hx.2.1).trans hs.u, (h fm 0 hx.2.2.1).trans hs.m⟩
    have hB : ∀ {o' : St} {f : Nat} {i : Nat} {B : Option SObj}, nx ≤ f → SameB nx o o' → SameB nx o (St.set o' f i B) := fun hf h => h.set hf _ _
    repeat' (first | ((with_reducible apply lend_at M_P M_G (hd) gpu (Flat.v _)); (exact ⟨(pu_conD _).fz, (hH _ (by (repeat (refine hB (by omega) ?_)); exact SameB.refl _ _)).fz, .v _, trivial⟩); simp only [go_sem, ↓reduceIte, decide_eq_true_eq, reduceCtorEq, Nat.reduceEqDiff, Nat.reduceLT, Nat.reduceLeDiff, Nat.reduceAdd, Nat.reduceSub, Nat.reduceMul, Nat.reduceGT, Int.reduceNeg, Int.reduceToNat, and_true, true_and, and_false, false_and, List.getElem?_toArray, List.getElem?_cons_zero, List.getElem?_cons_succ, List.cons_append, List.nil_append, if_true, if_false, Option.getD_some, Option.isSome_some, Bool.false_eq_true, List.append_nil, List.drop_zero, List.drop_succ_cons, Bool.cond_false_right, Bool.cond_false_left, Bool.cond_true_left, Bool.cond_true_right, ite_self, Bool.not_true, Bool.not_false, cond_true, cond_false, List.size_toArray, implies_true, true_implies, false_implies, List.all_cons, List.all_nil, List.nodup_cons, List.nodup_nil, List.mem_cons, List.not_mem_nil, or_false, false_or, not_false_eq_true, decide_true, Bool.and_true, Bool.and_self, g1, g2, g3, h2, h3]) | (with_reducible refine And.intro ?_ ?_) | ((with_reducible refine ite_cases ?_ ?_) <;> intro _))
    all_goals first
      | (refine keeps_set ?_; (repeat rw [set_ne (by omega)]); exact hw _ _ (by omega))
      | (refine ⟨_, _, ⟨?_, rfl, rfl, rfl, rfl, rfl, ?_, ?_, ?_, ?_, ?_, ?_⟩⟩
         · simp only; omega
         · dsimp only; repeat (first | rw [set_eq] | rw [set_ne (by omega)])
         · dsimp only; repeat (first | rw [set_eq] | rw [set_ne (by omega)])
         · dsimp only; repeat (first | rw [set_eq] | rw [set_ne (by omega)])
         · dsimp only; repeat (first | rw [set_eq] | rw [set_ne (by omega)])
         · dsimp only; (repeat (first | rw [set_eq] | rw [set_ne (by omega)])); rfl
         · intro f i hf; dsimp only; repeat rw [set_ne (by omega)])
  · rintro x e1 ⟨o1, n1⟩ ⟨rfl, f6, f7, ⟨k0, k3, k4, k5, k6, k7, kc, ks, ka, kA, kw, ko⟩⟩
    simp only at k0 kc ks ka kA kw ko
    have hu1 : o1 fu 0 = some (.blk 1 s.used.length tu (rowsOf booC s.used)) := (ko fu 0 hx.2.1).trans hs.u
    have hal : act < (s.used.length : Int) := by have := ha.2; simp only [Es.len] at this; omega
    simp only [thenA, go_sem, ↓reduceIte, decide_eq_true_eq, reduceCtorEq, Nat.reduceEqDiff, Nat.reduceLT, Nat.reduceLeDiff, Nat.reduceAdd, Nat.reduceSub, Nat.reduceMul, Nat.reduceGT, Int.reduceNeg, Int.reduceToNat, and_true, true_and, and_false, false_and, List.getElem?_toArray, List.getElem?_cons_zero, List.getElem?_cons_succ, List.cons_append, List.nil_append, if_true, if_false, Option.getD_some, Option.isSome_some, Bool.false_eq_true, List.append_nil, List.drop_zero, List.drop_succ_cons, Bool.cond_false_right, Bool.cond_false_left, Bool.cond_true_left, Bool.cond_true_right, ite_self, Bool.not_true, Bool.not_false, cond_true, cond_false, List.size_toArray, implies_true, true_implies, false_implies, List.all_cons, List.all_nil, List.nodup_cons, List.nodup_nil, List.mem_cons, List.not_mem_nil, or_false, false_or, not_false_eq_true, decide_true, Bool.and_true, Bool.and_self, k3, k4, k5, k6, k7, kc, ks, ka, kA, kw, hu1]
    refine ⟨⟨ha.1, hal⟩, by omega, ?_⟩
    rw [show Es.at_ s.used ((0 + act.toNat : Nat) : Int) = Es.at_ s.used act by rw [Nat.zero_add, Es.at_nn]]
    have hol : HasSt o1 fh fu fm th tu tm s := ⟨(ko _ _ hx.1).trans hs.h, hu1, (ko _ _ hx.2.2.1).trans hs.m⟩
    refine ite_cases (fun hus => ?_) (fun hus => ?_)
    · refine hk _ _ ⟨by omega, ?_, fun f i hf _ _ _ => ko f i hf⟩
      rw [show Es.doS c s act = s by unfold Es.doS; rw [if_pos hus]]
      exact hol
    refine running_spec _ _ _ _ c s.day fh s.holders.length fu s.used.length fm s.marks.length _ _ _ ?_
    simp only [go_sem, ↓reduceIte, decide_eq_true_eq, reduceCtorEq, Nat.reduceEqDiff, Nat.reduceLT, Nat.reduceLeDiff, Nat.reduceAdd, Nat.reduceSub, Nat.reduceMul, Nat.reduceGT, Int.reduceNeg, Int.reduceToNat, and_true, true_and, and_false, false_and, List.getElem?_toArray, List.getElem?_cons_zero, List.getElem?_cons_succ, List.cons_append, List.nil_append, if_true, if_false, Option.getD_some, Option.isSome_some, Bool.false_eq_true, List.append_nil, List.drop_zero, List.drop_succ_cons, Bool.cond_false_right, Bool.cond_false_left, Bool.cond_true_left, Bool.cond_true_right, ite_self, Bool.not_true, Bool.not_false, cond_true, cond_false, List.size_toArray, implies_true, true_implies, false_implies, List.all_cons, List.all_nil, List.nodup_cons, List.nodup_nil, List.mem_cons, List.not_mem_nil, or_false, false_or, not_false_eq_true, decide_true, Bool.and_true, Bool.and_self, k3, k4, k5, k6, k7]
    refine run_loop (n1 := n1) c s.day fh s.holders.length fu s.used.length fm s.marks.length tm (Es.actMark c act (Es.doer c s act)) s.marks (by decide) (by simp only [go_sem, ↓reduceIte, decide_eq_true_eq, reduceCtorEq, Nat.reduceEqDiff, Nat.reduceLT, Nat.reduceLeDiff, Nat.reduceAdd, Nat.reduceSub, Nat.reduceMul, Nat.reduceGT, Int.reduceNeg, Int.reduceToNat, and_true, true_and, and_false, false_and, List.getElem?_toArray, List.getElem?_cons_zero, List.getElem?_cons_succ, List.cons_append, List.nil_append, if_true, if_false, Option.getD_some, Option.isSome_some, Bool.false_eq_true, List.append_nil, List.drop_zero, List.drop_succ_cons, Bool.cond_false_right, Bool.cond_false_left, Bool.cond_true_left, Bool.cond_true_right, ite_self, Bool.not_true, Bool.not_false, cond_true, cond_false, List.size_toArray, implies_true, true_implies, false_implies, List.all_cons, List.all_nil, List.nodup_cons, List.nodup_nil, List.mem_cons, List.not_mem_nil, or_false, false_or, not_false_eq_true, decide_true, Bool.and_true, Bool.and_self]) (by rw [set_ne (by omega), set_eq]) (by rw [set_eq]) (by omega) hm (by omega) rfl (by rw [set_ne (by omega), set_ne (by omega)]; exact hol.m) ?_ ?_
    · intro X2 l i o2 nx2 rd bz R hi hn2 hm2 hr2 ho2 hrun hR
      have q0 : o2 (nx + 2) 0 = o1 (nx + 2) 0 := by rw [ho2 _ 0 (by omega) (by omega), set_ne (by omega), set_ne (by omega)]
      have q1 : o2 f7 0 = o1 f7 0 := by rw [ho2 _ 0 (by omega) (by omega), set_ne (by omega), set_ne (by omega)]
      rw [ka] at q0
      rw [kw] at q1
      have u1 : (nx2 = n1 + 2) = False := e0 (by omega); have u2 : (nx2 = fm) = False := e0 (by omega); have u3 : (nx2 = nx + 2) = False := e0 (by omega); have u4 : (nx2 = f7) = False := e0 (by omega); have u5 : (n1 + 2 = nx2) = False := e0 (by omega); have u6 : (n1 + 2 = fm) = False := e0 (by omega); have u7 : (n1 + 2 = nx + 2) = False := e0 (by omega); have u8 : (n1 + 2 = f7) = False := e0 (by omega); have u9 : (fm = nx2) = False := e0 (by omega); have u10 : (fm = n1 + 2) = False := e0 (by omega); have u11 : (fm = nx + 2) = False := e0 (by omega); have u12 : (fm = f7) = False := e0 (by omega); have u13 : (nx + 2 = nx2) = False := e0 (by omega); have u14 : (nx + 2 = n1 + 2) = False := e0 (by omega); have u15 : (nx + 2 = fm) = False := e0 (by omega); have u16 : (nx + 2 = f7) = False := e0 (by omega); have u17 : (f7 = nx2) = False := e0 (by omega); have u18 : (f7 = n1 + 2) = False := e0 (by omega); have u19 : (f7 = fm) = False := e0 (by omega); have u20 : (f7 = nx + 2) = False := e0 (by omega)
      have hgt := hgot i (by omega) (by rw [met_at _ _ _ _ (Nat.le_refl _)] at hrun; exact hrun)
      rw [← met_at (Es.actMark c act (Es.doer c s act)) s.marks i i (Nat.le_refl _)] at hgt
      have hlen : (met (Es.actMark c act (Es.doer c s act)) s.marks i).length = s.marks.length := met_length _ _ _
      have him : i < (met (Es.actMark c act (Es.doer c s act)) s.marks i).length := by rw [hlen]; exact hi
      generalize met (Es.actMark c act (Es.doer c s act)) s.marks i = ms at *
      have hfin : ∀ (e' : Env) (o3 : St) (n3 : Nat) (m' : Es.Mark), m' = Es.actMark c act (Es.doer c s act) i (Es.at_ ms (i : Int)) → nx2 ≤ n3 → o3 (n1 + 2) 0 = some bz → o3 fm 0 = some (.blk 5 s.marks.length tm (rowsOf mrkC (ms.set i m'))) →
          (∀ f j, f < nx2 → ¬ (f = fm ∧ j = 0) → ¬ (f = n1 + 2 ∧ j = 0) → o3 f j = o2 f j) → R .normal e' ⟨o3, n3⟩ := fun e' o3 n3 m' hm' h1 h2 h3 h4 => hR e' o3 n3 h1 h2 (by rw [← hm']; exact h3) h4
      have hfinA : ∀ (e' : Env) (B : Option SObj) (m' : Es.Mark), m' = Es.actMark c act (Es.doer c s act) i (Es.at_ ms (i : Int)) → R .normal e' ⟨St.set (St.set (St.set o2 nx2 0 B) (n1 + 2) 0 (some bz)) fm 0 (some (.blk 5 s.marks.length tm (rowsOf mrkC (ms.set i m')))), nx2 + 1⟩ := fun e' B m' hm' =>
        hfin e' _ _ m' hm' (by omega) (by rw [set_ne (by omega), set_eq]) (by rw [set_eq]) (fun f j h1 h2 h3 => by
          simp only [St.set]; rw [if_neg (by omega), if_neg (by omega), if_neg (by omega)])
      have hfinB : ∀ (e' : Env) (B : Option SObj), Es.at_ ms (i : Int) = Es.actMark c act (Es.doer c s act) i (Es.at_ ms (i : Int)) → R .normal e' ⟨St.set (St.set o2 nx2 0 B) (n1 + 2) 0 (some bz), nx2 + 1⟩ := fun e' B hm' =>
        hfin e' _ _ _ hm' (by omega) (by rw [set_eq]) (by rw [set_ne (by omega), set_ne (by omega), set_at him]; exact hm2) (fun f j h1 h2 h3 => by
          simp only [St.set]; rw [if_neg (by omega), if_neg (by omega)])
      have hfinC : ∀ (e' : Env) (oo o3 : St) (n3 : Nat) (m' : Es.Mark), Wrote oo (nx2 + 1) fm tm (ms.set i m') o3 n3 → oo (n1 + 2) 0 = some bz → (∀ f j, f < nx2 → ¬ (f = fm ∧ j = 0) → ¬ (f = n1 + 2 ∧ j = 0) → oo f j = o2 f j) → m' = Es.actMark c act (Es.doer c s act) i (Es.at_ ms (i : Int)) → R .normal e' ⟨o3, n3⟩ := fun e' oo o3 n3 m' hw h1 h2 hm' =>
        hfin e' _ _ m' hm' (by have := hw.1; omega) ((hw.2.2 _ _ (by omega) (by omega)).trans h1) (by have := hw.2.1; rw [List.length_set, hlen] at this; exact this) (fun f j g1 g2 g3 => by
          rw [hw.2.2 f j (by omega) g2]; exact h2 f j g1 g2 g3)
      refine wpA_sound _ _ _ _ ?_
      simp only [go_sem, ↓reduceIte, decide_eq_true_eq, reduceCtorEq, Nat.reduceEqDiff, Nat.reduceLT, Nat.reduceLeDiff, Nat.reduceAdd, Nat.reduceSub, Nat.reduceMul, Nat.reduceGT, Int.reduceNeg, Int.reduceToNat, and_true, true_and, and_false, false_and, List.getElem?_toArray, List.getElem?_cons_zero, List.getElem?_cons_succ, List.cons_append, List.nil_append, if_true, if_false, Option.getD_some, Option.isSome_some, Bool.false_eq_true, List.append_nil, List.drop_zero, List.drop_succ_cons, Bool.cond_false_right, Bool.cond_false_left, Bool.cond_true_left, Bool.cond_true_right, ite_self, Bool.not_true, Bool.not_false, cond_true, cond_false, List.size_toArray, implies_true, true_implies, false_implies, List.all_cons, List.all_nil, List.nodup_cons, List.nodup_nil, List.mem_cons, List.not_mem_nil, or_false, false_or, not_false_eq_true, decide_true, Bool.and_true, Bool.and_self, k3, k4, k5, k6, k7, u1, u2, u3, u4, u5, u6, u7, u8, u9, u10, u11, u12, u13, u14, u15, u16, u17, u18, u19, u20, hr2]
      refine wpA_sound _ _ _ _ ?_
      simp only [go_sem, ↓reduceIte, decide_eq_true_eq, reduceCtorEq, Nat.reduceEqDiff, Nat.reduceLT, Nat.reduceLeDiff, Nat.reduceAdd, Nat.reduceSub, Nat.reduceMul, Nat.reduceGT, Int.reduceNeg, Int.reduceToNat, and_true, true_and, and_false, false_and, List.getElem?_toArray, List.getElem?_cons_zero, List.getElem?_cons_succ, List.cons_append, List.nil_append, if_true, if_false, Option.getD_some, Option.isSome_some, Bool.false_eq_true, List.append_nil, List.drop_zero, List.drop_succ_cons, Bool.cond_false_right, Bool.cond_false_left, Bool.cond_true_left, Bool.cond_true_right, ite_self, Bool.not_true, Bool.not_false, cond_true, cond_false, List.size_toArray, implies_true, true_implies, false_implies, List.all_cons, List.all_nil, List.nodup_cons, List.nodup_nil, List.mem_cons, List.not_mem_nil, or_false, false_or, not_false_eq_true, decide_true, Bool.and_true, Bool.and_self, k3, k4, k5, k6, k7, u1, u2, u3, u4, u5, u6, u7, u8, u9, u10, u11, u12, u13, u14, u15, u16, u17, u18, u19, u20, hm2, q0, q1, him, hi, setC_mrk4, at_set, List.length_set, List.set_set]
      repeat' (first | (with_reducible refine And.intro ?_ ?_) | ((with_reducible refine ite_cases ?_ ?_) <;> intro _))
      all_goals refine awp_plan ((.op 0 (.op 1 (.op 2 (.op 3 (.op 4 (.op 5 (.op 6 (.op 7 (.op 8 (.op 9 (.op 10 (.op 11 (.op 12 (.op 13 (.op 14 (.op 15 (.op 16 (.op 17 (.op 18 (.op 19 .done))))))))))))))))))))) [] mix (by kernel_rfl) ?_
      all_goals simp only [go_sem, ↓reduceIte, decide_eq_true_eq, reduceCtorEq, Nat.reduceEqDiff, Nat.reduceLT, Nat.reduceLeDiff, Nat.reduceAdd, Nat.reduceSub, Nat.reduceMul, Nat.reduceGT, Int.reduceNeg, Int.reduceToNat, and_true, true_and, and_false, false_and, List.getElem?_toArray, List.getElem?_cons_zero, List.getElem?_cons_succ, List.cons_append, List.nil_append, if_true, if_false, Option.getD_some, Option.isSome_some, Bool.false_eq_true, List.append_nil, List.drop_zero, List.drop_succ_cons, Bool.cond_false_right, Bool.cond_false_left, Bool.cond_true_left, Bool.cond_true_right, ite_self, Bool.not_true, Bool.not_false, cond_true, cond_false, List.size_toArray, implies_true, true_implies, false_implies, List.all_cons, List.all_nil, List.nodup_cons, List.nodup_nil, List.mem_cons, List.not_mem_nil, or_false, false_or, not_false_eq_true, decide_true, Bool.and_true, Bool.and_self, k3, k4, k5, k6, k7, u1, u2, u3, u4, u5, u6, u7, u8, u9, u10, u11, u12, u13, u14, u15, u16, u17, u18, u19, u20, hm2, q0, q1, him, hi, setC_mrk4, at_set, List.length_set, List.set_set]
      repeat' (first | (with_reducible refine And.intro ?_ ?_) | ((with_reducible refine ite_cases ?_ ?_) <;> intro _))
      all_goals first
        | exact hfinA _ _ _ (by clear hfinA hfinB hfinC hfin hR hm2 hr2 ho2 kc ks ka kA kw ko q0 q1 hk hol hs hgt hgot hkd hgive hrole k0 k3 k4 k5 k6 k7 hw hu1 hx hrun u1 u2 u3 u4 u5 u6 u7 u8 u9 u10 u11 u12 u13 u14 u15 u16 u17 u18 u19 u20; clear hus hal ha hu hm hl; simp_all [Es.actMark])
        | exact hfinB _ _ (by clear hfinA hfinB hfinC hfin hR hm2 hr2 ho2 kc ks ka kA kw ko q0 q1 hk hol hs hgt hgot hkd hgive hrole k0 k3 k4 k5 k6 k7 hw hu1 hx hrun u1 u2 u3 u4 u5 u6 u7 u8 u9 u10 u11 u12 u13 u14 u15 u16 u17 u18 u19 u20; clear hus hal ha hu hm hl; simp_all [Es.actMark])
        | (refine awp_plan ((.op 0 (.op 1 (.op 2 (.op 4 (.op 3 (.op 5 .done))))))) [5] mix (by kernel_rfl) ?_
           simp only [go_sem, ↓reduceIte, decide_eq_true_eq, reduceCtorEq, Nat.reduceEqDiff, Nat.reduceLT, Nat.reduceLeDiff, Nat.reduceAdd, Nat.reduceSub, Nat.reduceMul, Nat.reduceGT, Int.reduceNeg, Int.reduceToNat, and_true, true_and, and_false, false_and, List.getElem?_toArray, List.getElem?_cons_zero, List.getElem?_cons_succ, List.cons_append, List.nil_append, if_true, if_false, Option.getD_some, Option.isSome_some, Bool.false_eq_true, List.append_nil, List.drop_zero, List.drop_succ_cons, Bool.cond_false_right, Bool.cond_false_left, Bool.cond_true_left, Bool.cond_true_right, ite_self, Bool.not_true, Bool.not_false, cond_true, cond_false, List.size_toArray, implies_true, true_implies, false_implies, List.all_cons, List.all_nil, List.nodup_cons, List.nodup_nil, List.mem_cons, List.not_mem_nil, or_false, false_or, not_false_eq_true, decide_true, Bool.and_true, Bool.and_self, k3, k4, k5, k6, k7, u1, u2, u3, u4, u5, u6, u7, u8, u9, u10, u11, u12, u13, u14, u15, u16, u17, u18, u19, u20, hm2, q0, q1, him, hi]
           refine call_at M_P M_G (counted_spec _ (hkd i (by omega))) ?_
           simp only [go_sem, ↓reduceIte, decide_eq_true_eq, reduceCtorEq, Nat.reduceEqDiff, Nat.reduceLT, Nat.reduceLeDiff, Nat.reduceAdd, Nat.reduceSub, Nat.reduceMul, Nat.reduceGT, Int.reduceNeg, Int.reduceToNat, and_true, true_and, and_false, false_and, List.getElem?_toArray, List.getElem?_cons_zero, List.getElem?_cons_succ, List.cons_append, List.nil_append, if_true, if_false, Option.getD_some, Option.isSome_some, Bool.false_eq_true, List.append_nil, List.drop_zero, List.drop_succ_cons, Bool.cond_false_right, Bool.cond_false_left, Bool.cond_true_left, Bool.cond_true_right, ite_self, Bool.not_true, Bool.not_false, cond_true, cond_false, List.size_toArray, implies_true, true_implies, false_implies, List.all_cons, List.all_nil, List.nodup_cons, List.nodup_nil, List.mem_cons, List.not_mem_nil, or_false, false_or, not_false_eq_true, decide_true, Bool.and_true, Bool.and_self, k3, k4, k5, k6, k7, u1, u2, u3, u4, u5, u6, u7, u8, u9, u10, u11, u12, u13, u14, u15, u16, u17, u18, u19, u20, hm2, q0, q1, him, hi]
           refine acted_spec' _ _ _ _ _ fm i s.marks.length tm _ _ _ _ (by (repeat (first | rw [set_eq] | rw [set_ne (by omega)])); try exact hm2) (by simp [hlen]) (by omega) hi (by first | exact hgt | (rw [at_set him]; exact hgt)) fun o3 n3 hw => ?_
           try simp only [at_set him, List.set_set] at hw
           simp only [go_sem, ↓reduceIte, decide_eq_true_eq, reduceCtorEq, Nat.reduceEqDiff, Nat.reduceLT, Nat.reduceLeDiff, Nat.reduceAdd, Nat.reduceSub, Nat.reduceMul, Nat.reduceGT, Int.reduceNeg, Int.reduceToNat, and_true, true_and, and_false, false_and, List.getElem?_toArray, List.getElem?_cons_zero, List.getElem?_cons_succ, List.cons_append, List.nil_append, if_true, if_false, Option.getD_some, Option.isSome_some, Bool.false_eq_true, List.append_nil, List.drop_zero, List.drop_succ_cons, Bool.cond_false_right, Bool.cond_false_left, Bool.cond_true_left, Bool.cond_true_right, ite_self, Bool.not_true, Bool.not_false, cond_true, cond_false, List.size_toArray, implies_true, true_implies, false_implies, List.all_cons, List.all_nil, List.nodup_cons, List.nodup_nil, List.mem_cons, List.not_mem_nil, or_false, false_or, not_false_eq_true, decide_true, Bool.and_true, Bool.and_self, k3, k4, k5, k6, k7]
           refine hfinC _ _ _ _ _ hw ?_ ?_ ?_
           · (repeat (first | rw [set_eq] | rw [set_ne (by omega)]))
           · intro f j h1 h2 h3
             simp only [St.set]
             repeat rw [if_neg (by omega)]
           · clear hw; clear hfinA hfinB hfinC hfin hR hm2 hr2 ho2 kc ks ka kA kw ko q0 q1 hk hol hs hgt hgot hkd hgive hrole k0 k3 k4 k5 k6 k7 hw hu1 hx hrun u1 u2 u3 u4 u5 u6 u7 u8 u9 u10 u11 u12 u13 u14 u15 u16 u17 u18 u19 u20; clear hus hal ha hu hm hl; simp_all [Es.actMark])
    · intro o3 n3 hw3
      have hn3 := hw3.1
      have hl1 : (met (Es.actMark c act (Es.doer c s act)) s.marks s.marks.length).length = s.marks.length := met_length _ _ _
      have hm3 := hw3.2.1
      rw [hl1] at hm3
      have hold3 : ∀ f i, f < n1 → ¬ (f = fm ∧ i = 0) → o3 f i = o1 f i := fun f i h1 h2 => by rw [hw3.2.2 f i (by omega) h2, set_ne (by omega), set_ne (by omega)]
      have hend : ∀ (M2 : List Es.Mark) (oT : St) (nT : Nat), M2 = (if (Es.at_ c.acts act).kind == 3 then met (Es.novMark c (Es.at_ c.acts act)) (met (Es.actMark c act (Es.doer c s act)) s.marks c.clauses.length) c.clauses.length else met (Es.actMark c act (Es.doer c s act)) s.marks c.clauses.length) →
          n1 ≤ nT → oT fm 0 = some (.blk 5 s.marks.length tm (rowsOf mrkC M2)) → (∀ f i, f < n1 → ¬ (f = fm ∧ i = 0) → oT f i = o1 f i) →
          ((Es.at_ c.acts act).kind = 1 → K (.tup []) ⟨oT, nT⟩) ∧ ((Es.at_ c.acts act).kind ≠ 1 → ∀ o', o' fh 0 = some (.blk 1 s.holders.length th (rowsOf intC (s.holders.set (Es.at_ c.acts act).give.toNat (Es.at_ c.acts act).to))) →
            o' fu 0 = some (.blk 1 s.used.length tu (rowsOf booC (s.used.set act.toNat true))) → (∀ f i, ¬ (f = fh ∧ i = 0) → ¬ (f = fu ∧ i = 0) → o' f i = oT f i) → K (.tup []) ⟨o', nT⟩) := by
        intro M2 oT nT hM hnT hT hoT
        have hML : M2.length = s.marks.length := by rw [hM]; split <;> simp [met_length]
        have hdo : Es.doS c s act = { s with marks := M2, holders := if (Es.at_ c.acts act).kind != 1 then s.holders.set (Es.at_ c.acts act).give.toNat (Es.at_ c.acts act).to else s.holders, used := if (Es.at_ c.acts act).kind != 1 then s.used.set act.toNat true else s.used } := by
          unfold Es.doS; rw [if_neg hus, hM]
        refine ⟨fun h1 => hk _ _ ⟨by omega, ?_, fun f i hf hne _ _ => ?_⟩, fun h1 o' hh hu' ho' => hk _ _ ⟨by omega, ?_, fun f i hf hne h2 h3 => ?_⟩⟩
        · rw [hdo]
          simp only [h1, bne_self_eq_false, Bool.false_eq_true, if_false]
          exact ⟨(hoT _ _ (by omega) (by omega)).trans hol.h, (hoT _ _ (by omega) (by omega)).trans hol.u, by rw [hML]; exact hT⟩
        · rw [hoT f i (by omega) hne]; exact ko f i hf
        · rw [hdo]
          have : ((Es.at_ c.acts act).kind != 1) = true := by simpa using h1
          simp only [this, if_true]
          refine ⟨by simp only [List.length_set]; exact hh, by simp only [List.length_set]; exact hu', ?_⟩
          rw [hML]; exact (ho' _ _ (by omega) (by omega)).trans hT
        · rw [ho' f i h2 h3, hoT f i (by omega) hne]; exact ko f i hf
      have v1 : (fu = fh) = False := e0 (by omega); have v2 : (fu = nx) = False := e0 (by omega); have v3 : (fu = nx + 1) = False := e0 (by omega); have v4 : (fu = nx + 2) = False := e0 (by omega); have v5 : (fu = f6) = False := e0 (by omega); have v6 : (fh = fu) = False := e0 (by omega); have v7 : (fh = nx) = False := e0 (by omega); have v8 : (fh = nx + 1) = False := e0 (by omega); have v9 : (fh = nx + 2) = False := e0 (by omega); have v10 : (fh = f6) = False := e0 (by omega); have v11 : (nx = fu) = False := e0 (by omega); have v12 : (nx = fh) = False := e0 (by omega); have v13 : (nx = nx + 1) = False := e0 (by omega); have v14 : (nx = nx + 2) = False := e0 (by omega); have v15 : (nx = f6) = False := e0 (by omega); have v16 : (nx + 1 = fu) = False := e0 (by omega); have v17 : (nx + 1 = fh) = False := e0 (by omega); have v18 : (nx + 1 = nx) = False := e0 (by omega); have v19 : (nx + 1 = nx + 2) = False := e0 (by omega); have v20 : (nx + 1 = f6) = False := e0 (by omega); have v21 : (nx + 2 = fu) = False := e0 (by omega); have v22 : (nx + 2 = fh) = False := e0 (by omega); have v23 : (nx + 2 = nx) = False := e0 (by omega); have v24 : (nx + 2 = nx + 1) = False := e0 (by omega); have v25 : (nx + 2 = f6) = False := e0 (by omega); have v26 : (f6 = fu) = False := e0 (by omega); have v27 : (f6 = fh) = False := e0 (by omega); have v28 : (f6 = nx) = False := e0 (by omega); have v29 : (f6 = nx + 1) = False := e0 (by omega); have v30 : (f6 = nx + 2) = False := e0 (by omega)
      have tA : o3 f6 0 = o1 f6 0 := hold3 _ _ (by omega) (by omega)
      have tC : o3 nx 0 = o1 nx 0 := hold3 _ _ (by omega) (by omega)
      have tS : o3 (nx + 1) 0 = o1 (nx + 1) 0 := hold3 _ _ (by omega) (by omega)
      have tR : o3 (nx + 2) 0 = o1 (nx + 2) 0 := hold3 _ _ (by omega) (by omega)
      have tH : o3 fh 0 = o1 fh 0 := hold3 _ _ (by omega) (by omega)
      have tU : o3 fu 0 = o1 fu 0 := hold3 _ _ (by omega) (by omega)
      rw [kA] at tA
      rw [kc] at tC
      rw [ks] at tS
      rw [ka] at tR
      rw [hol.h] at tH
      rw [hol.u] at tU
      simp only [go_sem, ↓reduceIte, decide_eq_true_eq, reduceCtorEq, Nat.reduceEqDiff, Nat.reduceLT, Nat.reduceLeDiff, Nat.reduceAdd, Nat.reduceSub, Nat.reduceMul, Nat.reduceGT, Int.reduceNeg, Int.reduceToNat, and_true, true_and, and_false, false_and, List.getElem?_toArray, List.getElem?_cons_zero, List.getElem?_cons_succ, List.cons_append, List.nil_append, if_true, if_false, Option.getD_some, Option.isSome_some, Bool.false_eq_true, List.append_nil, List.drop_zero, List.drop_succ_cons, Bool.cond_false_right, Bool.cond_false_left, Bool.cond_true_left, Bool.cond_true_right, ite_self, Bool.not_true, Bool.not_false, cond_true, cond_false, List.size_toArray, implies_true, true_implies, false_implies, List.all_cons, List.all_nil, List.nodup_cons, List.nodup_nil, List.mem_cons, List.not_mem_nil, or_false, false_or, not_false_eq_true, decide_true, Bool.and_true, Bool.and_self, k3, k4, k5, k6, k7, tA, tC, tS, tR, tH, tU, thenA]
      refine ite_cases (fun h3 => ?_) (fun h3 => ?_)
      · refine running_spec _ _ _ _ c s.day fh s.holders.length fu s.used.length fm s.marks.length _ _ _ ?_
        simp only [go_sem, ↓reduceIte, decide_eq_true_eq, reduceCtorEq, Nat.reduceEqDiff, Nat.reduceLT, Nat.reduceLeDiff, Nat.reduceAdd, Nat.reduceSub, Nat.reduceMul, Nat.reduceGT, Int.reduceNeg, Int.reduceToNat, and_true, true_and, and_false, false_and, List.getElem?_toArray, List.getElem?_cons_zero, List.getElem?_cons_succ, List.cons_append, List.nil_append, if_true, if_false, Option.getD_some, Option.isSome_some, Bool.false_eq_true, List.append_nil, List.drop_zero, List.drop_succ_cons, Bool.cond_false_right, Bool.cond_false_left, Bool.cond_true_left, Bool.cond_true_right, ite_self, Bool.not_true, Bool.not_false, cond_true, cond_false, List.size_toArray, implies_true, true_implies, false_implies, List.all_cons, List.all_nil, List.nodup_cons, List.nodup_nil, List.mem_cons, List.not_mem_nil, or_false, false_or, not_false_eq_true, decide_true, Bool.and_true, Bool.and_self, k3, k4, k5, k6, k7]
        refine run_loop (n1 := n3) c s.day fh s.holders.length fu s.used.length fm s.marks.length tm (Es.novMark c (Es.at_ c.acts act)) (met (Es.actMark c act (Es.doer c s act)) s.marks s.marks.length) (by decide) (by simp only [go_sem, ↓reduceIte, decide_eq_true_eq, reduceCtorEq, Nat.reduceEqDiff, Nat.reduceLT, Nat.reduceLeDiff, Nat.reduceAdd, Nat.reduceSub, Nat.reduceMul, Nat.reduceGT, Int.reduceNeg, Int.reduceToNat, and_true, true_and, and_false, false_and, List.getElem?_toArray, List.getElem?_cons_zero, List.getElem?_cons_succ, List.cons_append, List.nil_append, if_true, if_false, Option.getD_some, Option.isSome_some, Bool.false_eq_true, List.append_nil, List.drop_zero, List.drop_succ_cons, Bool.cond_false_right, Bool.cond_false_left, Bool.cond_true_left, Bool.cond_true_right, ite_self, Bool.not_true, Bool.not_false, cond_true, cond_false, List.size_toArray, implies_true, true_implies, false_implies, List.all_cons, List.all_nil, List.nodup_cons, List.nodup_nil, List.mem_cons, List.not_mem_nil, or_false, false_or, not_false_eq_true, decide_true, Bool.and_true, Bool.and_self]) (by rw [set_ne (by omega), set_eq]) (by rw [set_eq]) (by omega) hm (by omega) hl1 (by rw [set_ne (by omega), set_ne (by omega)]; exact hm3) ?_ ?_
        · intro X2 l i o2 nx2 rd bz R hi hn2 hm2 hr2 ho2 hrun hR
          refine wpA_sound _ _ _ _ ?_
          have q1 : o2 f6 0 = o1 f6 0 := by rw [ho2 _ 0 (by omega) (by omega), set_ne (by omega), set_ne (by omega)]; exact hold3 _ _ (by omega) (by omega)
          rw [kA] at q1
          have u1 : (nx2 = n3 + 2) = False := e0 (by omega); have u2 : (nx2 = fm) = False := e0 (by omega); have u3 : (nx2 = f6) = False := e0 (by omega); have u4 : (n3 + 2 = nx2) = False := e0 (by omega); have u5 : (n3 + 2 = fm) = False := e0 (by omega); have u6 : (n3 + 2 = f6) = False := e0 (by omega); have u7 : (fm = nx2) = False := e0 (by omega); have u8 : (fm = n3 + 2) = False := e0 (by omega); have u9 : (fm = f6) = False := e0 (by omega); have u10 : (f6 = nx2) = False := e0 (by omega); have u11 : (f6 = n3 + 2) = False := e0 (by omega); have u12 : (f6 = fm) = False := e0 (by omega)
          have hlen : (met (Es.novMark c (Es.at_ c.acts act)) (met (Es.actMark c act (Es.doer c s act)) s.marks s.marks.length) i).length = s.marks.length := (met_length _ _ _).trans hl1
          have him : i < (met (Es.novMark c (Es.at_ c.acts act)) (met (Es.actMark c act (Es.doer c s act)) s.marks s.marks.length) i).length := by rw [hlen]; exact hi
          generalize met (Es.novMark c (Es.at_ c.acts act)) (met (Es.actMark c act (Es.doer c s act)) s.marks s.marks.length) i = ms at *
          have hfin : ∀ (e' : Env) (o3 : St) (n4 : Nat) (m' : Es.Mark), m' = Es.novMark c (Es.at_ c.acts act) i (Es.at_ ms (i : Int)) → nx2 ≤ n4 → o3 (n3 + 2) 0 = some bz → o3 fm 0 = some (.blk 5 s.marks.length tm (rowsOf mrkC (ms.set i m'))) →
              (∀ f j, f < nx2 → ¬ (f = fm ∧ j = 0) → ¬ (f = n3 + 2 ∧ j = 0) → o3 f j = o2 f j) → R .normal e' ⟨o3, n4⟩ := fun e' o3 n3 m' hm' h1 h2 h3 h4 => hR e' o3 n3 h1 h2 (by rw [← hm']; exact h3) h4
          have hfinA : ∀ (e' : Env) (B : Option SObj) (m' : Es.Mark), m' = Es.novMark c (Es.at_ c.acts act) i (Es.at_ ms (i : Int)) → R .normal e' ⟨St.set (St.set (St.set o2 nx2 0 B) (n3 + 2) 0 (some bz)) fm 0 (some (.blk 5 s.marks.length tm (rowsOf mrkC (ms.set i m')))), nx2 + 1⟩ := fun e' B m' hm' =>
            hfin e' _ _ m' hm' (by omega) (by rw [set_ne (by omega), set_eq]) (by rw [set_eq]) (fun f j h1 h2 h3 => by
              simp only [St.set]; rw [if_neg (by omega), if_neg (by omega), if_neg (by omega)])
          have hfinB : ∀ (e' : Env) (B : Option SObj), Es.at_ ms (i : Int) = Es.novMark c (Es.at_ c.acts act) i (Es.at_ ms (i : Int)) → R .normal e' ⟨St.set (St.set o2 nx2 0 B) (n3 + 2) 0 (some bz), nx2 + 1⟩ := fun e' B hm' =>
            hfin e' _ _ _ hm' (by omega) (by rw [set_eq]) (by rw [set_ne (by omega), set_ne (by omega), set_at him]; exact hm2) (fun f j h1 h2 h3 => by
              simp only [St.set]; rw [if_neg (by omega), if_neg (by omega)])
          simp only [go_sem, ↓reduceIte, decide_eq_true_eq, reduceCtorEq, Nat.reduceEqDiff, Nat.reduceLT, Nat.reduceLeDiff, Nat.reduceAdd, Nat.reduceSub, Nat.reduceMul, Nat.reduceGT, Int.reduceNeg, Int.reduceToNat, and_true, true_and, and_false, false_and, List.getElem?_toArray, List.getElem?_cons_zero, List.getElem?_cons_succ, List.cons_append, List.nil_append, if_true, if_false, Option.getD_some, Option.isSome_some, Bool.false_eq_true, List.append_nil, List.drop_zero, List.drop_succ_cons, Bool.cond_false_right, Bool.cond_false_left, Bool.cond_true_left, Bool.cond_true_right, ite_self, Bool.not_true, Bool.not_false, cond_true, cond_false, List.size_toArray, implies_true, true_implies, false_implies, List.all_cons, List.all_nil, List.nodup_cons, List.nodup_nil, List.mem_cons, List.not_mem_nil, or_false, false_or, not_false_eq_true, decide_true, Bool.and_true, Bool.and_self, k3, k4, k5, k6, k7, u1, u2, u3, u4, u5, u6, u7, u8, u9, u10, u11, u12, hr2]
          refine wpA_sound _ _ _ _ ?_
          simp only [go_sem, ↓reduceIte, decide_eq_true_eq, reduceCtorEq, Nat.reduceEqDiff, Nat.reduceLT, Nat.reduceLeDiff, Nat.reduceAdd, Nat.reduceSub, Nat.reduceMul, Nat.reduceGT, Int.reduceNeg, Int.reduceToNat, and_true, true_and, and_false, false_and, List.getElem?_toArray, List.getElem?_cons_zero, List.getElem?_cons_succ, List.cons_append, List.nil_append, if_true, if_false, Option.getD_some, Option.isSome_some, Bool.false_eq_true, List.append_nil, List.drop_zero, List.drop_succ_cons, Bool.cond_false_right, Bool.cond_false_left, Bool.cond_true_left, Bool.cond_true_right, ite_self, Bool.not_true, Bool.not_false, cond_true, cond_false, List.size_toArray, implies_true, true_implies, false_implies, List.all_cons, List.all_nil, List.nodup_cons, List.nodup_nil, List.mem_cons, List.not_mem_nil, or_false, false_or, not_false_eq_true, decide_true, Bool.and_true, Bool.and_self, k3, k4, k5, k6, k7, u1, u2, u3, u4, u5, u6, u7, u8, u9, u10, u11, u12, hm2, q1, him, hi, setC_mrk3, at_set, List.length_set, List.set_set]
          repeat' (first | (with_reducible refine And.intro ?_ ?_) | ((with_reducible refine ite_cases ?_ ?_) <;> intro _))
          all_goals first
            | exact hfinA _ _ _ (by clear hfinA hfinB hfin hR hm2 hr2 ho2 kc ks ka kA kw ko q1 hk hol hs hgot hkd hgive hrole k0 k3 k4 k5 k6 k7 hw hu1 hx hrun hend hold3 tA tC tS tR tH tU hw3 hm3 u1 u2 u3 u4 u5 u6 u7 u8 u9 u10 u11 u12; simp_all [Es.novMark])
            | exact hfinB _ _ (by clear hfinA hfinB hfin hR hm2 hr2 ho2 kc ks ka kA kw ko q1 hk hol hs hgot hkd hgive hrole k0 k3 k4 k5 k6 k7 hw hu1 hx hrun hend hold3 tA tC tS tR tH tU hw3 hm3 u1 u2 u3 u4 u5 u6 u7 u8 u9 u10 u11 u12; simp_all [Es.novMark])
        · intro o5 n5 hw5
          have hn5 := hw5.1
          have hm5 := hw5.2.1
          rw [met_length, hl1] at hm5
          have hold5 : ∀ f i, f < n1 → ¬ (f = fm ∧ i = 0) → o5 f i = o1 f i := fun f i h1 h2 => by rw [hw5.2.2 f i (by omega) h2, set_ne (by omega), set_ne (by omega)]; exact hold3 f i h1 h2
          have hE := hend _ o5 n5 (by rw [if_pos h3, ← hm]) (by omega) hm5 hold5
          have tA := (hold5 f6 0 (by omega) (by omega)).trans ((hold3 f6 0 (by omega) (by omega)).symm.trans tA)
          have tS := (hold5 (nx + 1) 0 (by omega) (by omega)).trans ((hold3 _ 0 (by omega) (by omega)).symm.trans tS)
          have tR := (hold5 (nx + 2) 0 (by omega) (by omega)).trans ((hold3 _ 0 (by omega) (by omega)).symm.trans tR)
          have tH := (hold5 fh 0 (by omega) (by omega)).trans ((hold3 _ 0 (by omega) (by omega)).symm.trans tH)
          have tU := (hold5 fu 0 (by omega) (by omega)).trans ((hold3 _ 0 (by omega) (by omega)).symm.trans tU)
          simp only [go_sem, ↓reduceIte, decide_eq_true_eq, reduceCtorEq, Nat.reduceEqDiff, Nat.reduceLT, Nat.reduceLeDiff, Nat.reduceAdd, Nat.reduceSub, Nat.reduceMul, Nat.reduceGT, Int.reduceNeg, Int.reduceToNat, and_true, true_and, and_false, false_and, List.getElem?_toArray, List.getElem?_cons_zero, List.getElem?_cons_succ, List.cons_append, List.nil_append, if_true, if_false, Option.getD_some, Option.isSome_some, Bool.false_eq_true, List.append_nil, List.drop_zero, List.drop_succ_cons, Bool.cond_false_right, Bool.cond_false_left, Bool.cond_true_left, Bool.cond_true_right, ite_self, Bool.not_true, Bool.not_false, cond_true, cond_false, List.size_toArray, implies_true, true_implies, false_implies, List.all_cons, List.all_nil, List.nodup_cons, List.nodup_nil, List.mem_cons, List.not_mem_nil, or_false, false_or, not_false_eq_true, decide_true, Bool.and_true, Bool.and_self, k3, k4, k5, k6, k7, tA, tS, tR, tH, tU, thenA]
          refine ite_cases (fun hk1 => ?_) (fun hk1 => ?_)
          · have hne : (Es.at_ c.acts act).kind ≠ 1 := by simpa using hk1
            have hgv := hgive hne
            have hgv' : (Es.at_ c.acts act).give.toNat < s.holders.length := by have := hgv; simp only [Es.len] at this; omega
            have hav' : act.toNat < s.used.length := by omega
            refine awp_plan ((.op 0 (.op 1 (.op 2 (.op 3 (.op 4 (.op 7 (.op 8 (.op 9 (.alt 5 (.alt 6 (.op 10 (.op 11 (.op 12 .done))) (.alt 10 (.op 6 (.op 11 (.op 12 .done))) .dead)) (.alt 6 (.alt 5 (.op 10 (.op 11 (.op 12 .done))) (.alt 10 (.op 5 (.op 11 (.op 12 .done))) .dead)) (.alt 10 (.op 5 (.op 6 (.op 11 (.op 12 .done)))) .dead)))))))))))) [10, 12] mix (by kernel_rfl) ?_
            simp only [go_sem, ↓reduceIte, decide_eq_true_eq, reduceCtorEq, Nat.reduceEqDiff, Nat.reduceLT, Nat.reduceLeDiff, Nat.reduceAdd, Nat.reduceSub, Nat.reduceMul, Nat.reduceGT, Int.reduceNeg, Int.reduceToNat, and_true, true_and, and_false, false_and, List.getElem?_toArray, List.getElem?_cons_zero, List.getElem?_cons_succ, List.cons_append, List.nil_append, if_true, if_false, Option.getD_some, Option.isSome_some, Bool.false_eq_true, List.append_nil, List.drop_zero, List.drop_succ_cons, Bool.cond_false_right, Bool.cond_false_left, Bool.cond_true_left, Bool.cond_true_right, ite_self, Bool.not_true, Bool.not_false, cond_true, cond_false, List.size_toArray, implies_true, true_implies, false_implies, List.all_cons, List.all_nil, List.nodup_cons, List.nodup_nil, List.mem_cons, List.not_mem_nil, or_false, false_or, not_false_eq_true, decide_true, Bool.and_true, Bool.and_self, k3, k4, k5, k6, k7, tA, tS, tR, tH, tU, v1, v2, v3, v4, v5, v6, v7, v8, v9, v10, v11, v12, v13, v14, v15, v16, v17, v18, v19, v20, v21, v22, v23, v24, v25, v26, v27, v28, v29, v30, Nat.zero_add, setC_int hgv', setC_boo hav']
            repeat' (first | (with_reducible refine And.intro ?_ ?_) | ((with_reducible refine ite_cases ?_ ?_) <;> intro _))
            all_goals first
              | (refine hE.2 hne _ ?_ ?_ ?_
                 · (repeat (first | rw [set_eq] | rw [set_ne (by omega)]))
                 · (repeat (first | rw [set_eq] | rw [set_ne (by omega)]))
                 · intro f i h1 h2
                   simp only [St.set]
                   repeat rw [if_neg (by omega)])
              | (have := hgv.2; simp only [Es.len] at this; omega)
              | omega
          · exact hE.1 (by simpa using hk1)
      · have hE := hend _ o3 n3 (by rw [if_neg h3, ← hm]) (by omega) hm3 hold3
        refine ite_cases (fun hk1 => ?_) (fun hk1 => ?_)
        · have hne : (Es.at_ c.acts act).kind ≠ 1 := by simpa using hk1
          have hgv := hgive hne
          have hgv' : (Es.at_ c.acts act).give.toNat < s.holders.length := by have := hgv; simp only [Es.len] at this; omega
          have hav' : act.toNat < s.used.length := by omega
          refine awp_plan ((.op 0 (.op 1 (.op 2 (.op 3 (.op 4 (.op 7 (.op 8 (.op 9 (.alt 5 (.alt 6 (.op 10 (.op 11 (.op 12 .done))) (.alt 10 (.op 6 (.op 11 (.op 12 .done))) .dead)) (.alt 6 (.alt 5 (.op 10 (.op 11 (.op 12 .done))) (.alt 10 (.op 5 (.op 11 (.op 12 .done))) .dead)) (.alt 10 (.op 5 (.op 6 (.op 11 (.op 12 .done)))) .dead)))))))))))) [10, 12] mix (by kernel_rfl) ?_
          simp only [go_sem, ↓reduceIte, decide_eq_true_eq, reduceCtorEq, Nat.reduceEqDiff, Nat.reduceLT, Nat.reduceLeDiff, Nat.reduceAdd, Nat.reduceSub, Nat.reduceMul, Nat.reduceGT, Int.reduceNeg, Int.reduceToNat, and_true, true_and, and_false, false_and, List.getElem?_toArray, List.getElem?_cons_zero, List.getElem?_cons_succ, List.cons_append, List.nil_append, if_true, if_false, Option.getD_some, Option.isSome_some, Bool.false_eq_true, List.append_nil, List.drop_zero, List.drop_succ_cons, Bool.cond_false_right, Bool.cond_false_left, Bool.cond_true_left, Bool.cond_true_right, ite_self, Bool.not_true, Bool.not_false, cond_true, cond_false, List.size_toArray, implies_true, true_implies, false_implies, List.all_cons, List.all_nil, List.nodup_cons, List.nodup_nil, List.mem_cons, List.not_mem_nil, or_false, false_or, not_false_eq_true, decide_true, Bool.and_true, Bool.and_self, k3, k4, k5, k6, k7, tA, tS, tR, tH, tU, v1, v2, v3, v4, v5, v6, v7, v8, v9, v10, v11, v12, v13, v14, v15, v16, v17, v18, v19, v20, v21, v22, v23, v24, v25, v26, v27, v28, v29, v30, Nat.zero_add, setC_int hgv', setC_boo hav']
          repeat' (first | (with_reducible refine And.intro ?_ ?_) | ((with_reducible refine ite_cases ?_ ?_) <;> intro _))
          all_goals first
            | (refine hE.2 hne _ ?_ ?_ ?_
               · (repeat (first | rw [set_eq] | rw [set_ne (by omega)]))
               · (repeat (first | rw [set_eq] | rw [set_ne (by omega)]))
               · intro f i h1 h2
                 simp only [St.set]
                 repeat rw [if_neg (by omega)])
            | (have := hgv.2; simp only [Es.len] at this; omega)
            | omega
        · exact hE.1 (by simpa using hk1)
end Tryd
end Go.Proofs
end
section
namespace Go.Proofs
open Go Go.Abs
set_option linter.unusedSimpArgs false
set_option linter.unusedVariables false
set_option maxRecDepth 10000
namespace Tryd
def resD2 (x : Es.State × Int) : D := .tup [staD x.1, .v (.int .i64 x.2)]
theorem fz_zero (s : S) : Fz s (.agg [.v (.int .i64 0), .v (.slice none 0 0), .v (.slice none 0 0), .v (.slice none 0 0)]) (staD ⟨0, [], [], []⟩) := Fz_agg ⟨.v _, .nil _ _, .nil _ _, .nil _ _, trivial⟩
theorem fine_of {c : Es.Contract} {s : Es.State} (h : Es.Core c s) : Fine c s where
  len := h.ml
  cond i hi := by
    obtain ⟨h1, h2⟩ := Es.clauseOk_start (Es.valid2_clause (c := c) (by simpa using h.con) hi)
    refine ⟨h1, fun y hy => ?_⟩
    have := h2 y hy
    simp only [Es.condOk, Es.under, Bool.and_eq_true, decide_eq_true_eq] at this
    exact this.1.1
  role i hi hk := by
    have := ((Es.valid2_ok h.con).clause i hi).role hk
    have hl := h.hl
    simp only [Es.len] at this ⊢
    omega
theorem has_wrote {o o' : St} {nx nx' fh fu fm : Nat} {th tu tm : TypeId} {s : Es.State} {ms : List Es.Mark} (h : HasSt o fh fu fm th tu tm s) (hw : Wrote o nx fm tm ms o' nx') (hx : fh < nx ∧ fu < nx ∧ fh ≠ fm ∧ fu ≠ fm) : HasSt o' fh fu fm th tu tm { s with marks := ms } :=
  ⟨(hw.2.2 fh 0 hx.1 (by omega)).trans h.h, (hw.2.2 fu 0 hx.2.1 (by omega)).trans h.u, hw.2.1⟩
theorem HasSt.day {o : St} {fh fu fm : Nat} {th tu tm : TypeId} {s : Es.State} (h : HasSt o fh fu fm th tu tm s) (d : Int) : HasSt o fh fu fm th tu tm { s with day := d } := ⟨h.h, h.u, h.m⟩
theorem HasSt.set {o : St} {fh fu fm f : Nat} {th tu tm : TypeId} {s : Es.State} (h : HasSt o fh fu fm th tu tm s) (hf : f ≠ fh ∧ f ≠ fu ∧ f ≠ fm) (i : Nat) (B : Option SObj) : HasSt (St.set o f i B) fh fu fm th tu tm s :=
  ⟨by rw [set_ne (by omega)]; exact h.h, by rw [set_ne (by omega)]; exact h.u, by rw [set_ne (by omega)]; exact h.m⟩
theorem HasSt.fz' {o : St} {nx fh fu fm nh nu nm : Nat} {th tu tm : TypeId} {s : Es.State} {d : Int} (h : HasSt o fh fu fm th tu tm s) (hd : s.day = d) (h1 : s.holders.length = nh) (h2 : s.used.length = nu) (h3 : s.marks.length = nm) : Fz ⟨o, nx⟩ (stO d fh nh fu nu fm nm) (staD s) := by
  subst hd h1 h2 h3; exact h.fz
theorem begin_spec' (X : D → Value → Prop) (N : Nat) (r : Option Nat) (b : Nat) (c : Es.Contract) (s : Es.State) (fh fu fm nh nu nm : Nat) (d : Int) (th tu tm : TypeId) (o : St) (nx : Nat) (K : D → S → Prop) (hd : s.day = d) (h1 : s.holders.length = nh) (h2 : s.used.length = nu) (h3 : s.marks.length = nm) (hs : HasSt o fh fu fm th tu tm s) (hx : fh < nx ∧ fu < nx ∧ fm < nx ∧ fh ≠ fm ∧ fu ≠ fm)
    (hF : Fine c s) (hl : c.clauses.length ≤ 400) (hk : ∀ o' nx', Wrote o nx fm tm (Es.begin_ c s).marks o' nx' → K (.tup []) ⟨o', nx'⟩) :
    ACall { P := prog, G := gl, X := X, N := N, r := r, b := b } 46 [conD c, stO d fh nh fu nu fm nm] ⟨o, nx⟩ K := by
  subst hd h1 h2 h3; exact begin_spec X N r b c s fh fu fm th tu tm o nx K hs hx hF hl hk
theorem step_spec (c : Es.Contract) (s : Es.State) (k : Int) (hf : Es.Fits c) (hs : Es.SFits s) : APure M 23 [conD c, staD s, .v (.int .i64 k)] (resD2 (Es.step c s k)) := by
  refine pure_of gpu func23 rfl results23 ntmps23 (by simp) ⟨pu_conD _, pu_staD _, .v _, trivial⟩ ?_
  intro b
  simp only [go_sem, ↓reduceIte, decide_eq_true_eq, reduceCtorEq, Nat.reduceEqDiff, Nat.reduceLT, Nat.reduceLeDiff, Nat.reduceAdd, Nat.reduceSub, Nat.reduceMul, Nat.reduceGT, Int.reduceNeg, Int.reduceToNat, and_true, true_and, and_false, false_and, List.getElem?_toArray, List.getElem?_cons_zero, List.getElem?_cons_succ, List.cons_append, List.nil_append, if_true, if_false, Option.getD_some, Option.isSome_some, Bool.false_eq_true, List.append_nil, List.drop_zero, List.drop_succ_cons, Bool.cond_false_right, Bool.cond_false_left, Bool.cond_true_left, Bool.cond_true_right, ite_self, Bool.not_true, Bool.not_false, cond_true, cond_false, List.size_toArray, implies_true, true_implies, false_implies, List.all_cons, List.all_nil, List.nodup_cons, List.nodup_nil, List.mem_cons, List.not_mem_nil, or_false, false_or, not_false_eq_true, decide_true, Bool.and_true, Bool.and_self]
  repeat' (first | ((with_reducible refine call_at M_P M_G (sValid_spec c s hf hs) ?_); simp only [go_sem, ↓reduceIte, decide_eq_true_eq, reduceCtorEq, Nat.reduceEqDiff, Nat.reduceLT, Nat.reduceLeDiff, Nat.reduceAdd, Nat.reduceSub, Nat.reduceMul, Nat.reduceGT, Int.reduceNeg, Int.reduceToNat, and_true, true_and, and_false, false_and, List.getElem?_toArray, List.getElem?_cons_zero, List.getElem?_cons_succ, List.cons_append, List.nil_append, if_true, if_false, Option.getD_some, Option.isSome_some, Bool.false_eq_true, List.append_nil, List.drop_zero, List.drop_succ_cons, Bool.cond_false_right, Bool.cond_false_left, Bool.cond_true_left, Bool.cond_true_right, ite_self, Bool.not_true, Bool.not_false, cond_true, cond_false, List.size_toArray, implies_true, true_implies, false_implies, List.all_cons, List.all_nil, List.nodup_cons, List.nodup_nil, List.mem_cons, List.not_mem_nil, or_false, false_or, not_false_eq_true, decide_true, Bool.and_true, Bool.and_self]) | (with_reducible refine And.intro ?_ ?_) | ((with_reducible refine ite_cases ?_ ?_) <;> intro _))
  all_goals first
    | (rw [show Es.step c s k = (⟨0, [], [], []⟩, 1) by unfold Es.step; rw [if_pos (by simp_all)]]; exact Fz_tup ⟨fz_zero _, .v _, trivial⟩)
    | (rw [show Es.step c s k = (⟨0, [], [], []⟩, 13) by unfold Es.step; rw [if_neg (by simp_all), if_pos (by simp_all)]]; exact Fz_tup ⟨fz_zero _, .v _, trivial⟩)
    | skip
  have hv : Es.sValid c s = true := by simpa using ‹(!Es.sValid c s) = false›
  have hk0 : -1 ≤ k ∧ k < Es.len c.acts := by
    have h1 : decide (k < -1) = false := ‹_›
    have h2 : ¬ Es.len c.acts ≤ k := ‹_›
    have h3 := of_decide_eq_false h1
    omega
  have hday : ¬ (s.day == c.days) = true := ‹_›
  have hst : Es.step c s k = (Es.begin_ c (Es.mid c s k), 0) := by
    unfold Es.step Es.mid; rw [if_neg (by simp_all), if_neg hday]
  have hC := (Es.sValid_iff.1 hv).1
  have hV := Es.valid2_ok hC.con
  have hM := (Es.step_ok (c := c) (s := s) (k := k) (by rw [hst])).core
  have hsm := hV.small
  have hsl := hC.hl
  have hsu := hC.ul
  have hsk := hC.ml
  have hfine := fine_of hM
  have hoff := (Es.off_sorted c.off (-1) hV.off).2
  have hdy := hC.day
  refine acall_wf fun hw => ?_
  simp only at hw
  refine sclone_spec _ _ _ _ s ⟨by omega, by omega, by omega⟩ _ _ _ hw fun o1 n1 fh fu fm th tu tm hlt hsame hw1 hH => ?_
  have g0 := hsame 0 0 (by omega)
  have g1 := hsame 1 0 (by omega)
  have g2 := hsame 2 0 (by omega)
  simp only [go_sem, ↓reduceIte, decide_eq_true_eq, reduceCtorEq, Nat.reduceEqDiff, Nat.reduceLT, Nat.reduceLeDiff, Nat.reduceAdd, Nat.reduceSub, Nat.reduceMul, Nat.reduceGT, Int.reduceNeg, Int.reduceToNat, and_true, true_and, and_false, false_and, List.getElem?_toArray, List.getElem?_cons_zero, List.getElem?_cons_succ, List.cons_append, List.nil_append, if_true, if_false, Option.getD_some, Option.isSome_some, Bool.false_eq_true, List.append_nil, List.drop_zero, List.drop_succ_cons, Bool.cond_false_right, Bool.cond_false_left, Bool.cond_true_left, Bool.cond_true_right, ite_self, Bool.not_true, Bool.not_false, cond_true, cond_false, List.size_toArray, implies_true, true_implies, false_implies, List.all_cons, List.all_nil, List.nodup_cons, List.nodup_nil, List.mem_cons, List.not_mem_nil, or_false, false_or, not_false_eq_true, decide_true, Bool.and_true, Bool.and_self] at g0 g1 g2
  have e0 : ∀ {a b : Nat}, a ≠ b → (a = b) = False := fun h => by simp [h]
  simp only [go_sem, ↓reduceIte, decide_eq_true_eq, reduceCtorEq, Nat.reduceEqDiff, Nat.reduceLT, Nat.reduceLeDiff, Nat.reduceAdd, Nat.reduceSub, Nat.reduceMul, Nat.reduceGT, Int.reduceNeg, Int.reduceToNat, and_true, true_and, and_false, false_and, List.getElem?_toArray, List.getElem?_cons_zero, List.getElem?_cons_succ, List.cons_append, List.nil_append, if_true, if_false, Option.getD_some, Option.isSome_some, Bool.false_eq_true, List.append_nil, List.drop_zero, List.drop_succ_cons, Bool.cond_false_right, Bool.cond_false_left, Bool.cond_true_left, Bool.cond_true_right, ite_self, Bool.not_true, Bool.not_false, cond_true, cond_false, List.size_toArray, implies_true, true_implies, false_implies, List.all_cons, List.all_nil, List.nodup_cons, List.nodup_nil, List.mem_cons, List.not_mem_nil, or_false, false_or, not_false_eq_true, decide_true, Bool.and_true, Bool.and_self, g0, g1, g2]
  have hol : (c.off.length : Int) ≤ c.days - 1 - (-1) := Es.off_len c.off (-1) (by have := hV.pos; omega) hV.off
  have hml := Es.mid_len c s k
  refine ite_cases (fun hk1 => ?_) (fun hk1 => ?_)
  · have hmid : Es.mid c s k = { Es.tickS c s with day := s.day + 1 } := by unfold Es.mid; rw [if_pos hk1]
    have hwr : IntKind.i64.wrap (s.day + 1) = s.day + 1 := wrap_i64 _ (by omega) (by omega)
    have hmd : (Es.mid c s k).day = s.day + 1 := by rw [hmid]
    have hmh : (Es.mid c s k).holders.length = s.holders.length := by rw [hmid]; rfl
    have hmu : (Es.mid c s k).used.length = s.used.length := by rw [hmid]; rfl
    refine tick_spec _ _ _ _ c s fh fu fm th tu tm _ _ _ (hH.set (by omega) _ _) (by omega) hsk (by omega) (by omega) hoff (fun i hi => (hV.clause i hi).kind) (fun i hi hr => ?_) fun o2 n2 hw2 => ?_
    · have hR := (hC.running hi hr).left
      have h1 := (hV.clause i hi).after
      have h2 := (hV.clause i hi).grace
      split at hR <;> omega
    have hn2 := hw2.1
    have p0 : o2 0 0 = _ := (hw2.2.2 0 0 (by omega) (by omega)).trans ((set_ne (by omega)).trans g0)
    have p1 : o2 1 0 = _ := (hw2.2.2 1 0 (by omega) (by omega)).trans set_eq
    have p2 : o2 2 0 = _ := (hw2.2.2 2 0 (by omega) (by omega)).trans ((set_ne (by omega)).trans g2)
    have hH2 : HasSt o2 fh fu fm th tu tm (Es.mid c s k) := by
      rw [hmid]; exact (has_wrote (hH.set (by omega) _ _) hw2 (by omega)).day _
    simp only [go_sem, ↓reduceIte, decide_eq_true_eq, reduceCtorEq, Nat.reduceEqDiff, Nat.reduceLT, Nat.reduceLeDiff, Nat.reduceAdd, Nat.reduceSub, Nat.reduceMul, Nat.reduceGT, Int.reduceNeg, Int.reduceToNat, and_true, true_and, and_false, false_and, List.getElem?_toArray, List.getElem?_cons_zero, List.getElem?_cons_succ, List.cons_append, List.nil_append, if_true, if_false, Option.getD_some, Option.isSome_some, Bool.false_eq_true, List.append_nil, List.drop_zero, List.drop_succ_cons, Bool.cond_false_right, Bool.cond_false_left, Bool.cond_true_left, Bool.cond_true_right, ite_self, Bool.not_true, Bool.not_false, cond_true, cond_false, List.size_toArray, implies_true, true_implies, false_implies, List.all_cons, List.all_nil, List.nodup_cons, List.nodup_nil, List.mem_cons, List.not_mem_nil, or_false, false_or, not_false_eq_true, decide_true, Bool.and_true, Bool.and_self, p0, p1, p2, hwr]
    refine begin_spec' _ _ _ _ c (Es.mid c s k) fh fu fm _ _ _ _ th tu tm _ _ _ hmd hmh hmu hml (hH2.set (by omega) _ _) (by omega) hfine (by omega) fun o3 n3 hw3 => ?_
    have hn3 := hw3.1
    have q1 : o3 1 0 = _ := (hw3.2.2 1 0 (by omega) (by omega)).trans set_eq
    have q2 : o3 2 0 = _ := (hw3.2.2 2 0 (by omega) (by omega)).trans ((set_ne (by omega)).trans p2)
    simp only [go_sem, ↓reduceIte, decide_eq_true_eq, reduceCtorEq, Nat.reduceEqDiff, Nat.reduceLT, Nat.reduceLeDiff, Nat.reduceAdd, Nat.reduceSub, Nat.reduceMul, Nat.reduceGT, Int.reduceNeg, Int.reduceToNat, and_true, true_and, and_false, false_and, List.getElem?_toArray, List.getElem?_cons_zero, List.getElem?_cons_succ, List.cons_append, List.nil_append, if_true, if_false, Option.getD_some, Option.isSome_some, Bool.false_eq_true, List.append_nil, List.drop_zero, List.drop_succ_cons, Bool.cond_false_right, Bool.cond_false_left, Bool.cond_true_left, Bool.cond_true_right, ite_self, Bool.not_true, Bool.not_false, cond_true, cond_false, List.size_toArray, implies_true, true_implies, false_implies, List.all_cons, List.all_nil, List.nodup_cons, List.nodup_nil, List.mem_cons, List.not_mem_nil, or_false, false_or, not_false_eq_true, decide_true, Bool.and_true, Bool.and_self, q1, q2]
    rw [hst]
    have hHB := has_wrote (hH2.set (f := 1) (by omega) 0 _) hw3 (by omega)
    rw [← Es.begin_eq hM.ml] at hHB
    refine Fz_tup ⟨HasSt.fz' (hHB.set (by omega) _ _) ?_ ?_ ?_ ?_, .v _, trivial⟩
    · rw [Es.begin_day hM.ml]; exact hmd
    · rw [Es.begin_holders hM.ml]; exact hmh
    · rw [Es.begin_used hM.ml]; exact hmu
    · rw [Es.begin_len hM.ml]; exact hml
  · have hmid : Es.mid c s k = Es.doS c s k := by unfold Es.mid; rw [if_neg hk1]
    have hk2 : 0 ≤ k ∧ k < Es.len c.acts := by
      have : ¬ k = -1 := by simpa using hk1
      omega
    have hmd : (Es.mid c s k).day = s.day := by rw [hmid]; exact Es.do_day c s k
    have hmh : (Es.mid c s k).holders.length = s.holders.length := by rw [hmid, Es.do_holders]; split <;> simp
    have hmu : (Es.mid c s k).used.length = s.used.length := by rw [hmid, Es.do_used]; split <;> simp
    refine do_spec _ _ _ _ c s k fh fu fm th tu tm _ _ _ (hH.set (by omega) _ _) (by omega) hsk (by omega) hsu hk2 (fun hr => hC.role hk2 hr) (fun hr => hC.give hk2 hr) (fun i hi => (hV.clause i hi).kind) (fun i hi hr => (hC.running hi hr).got9 (hV.clause i hi)) fun o2 n2 hw2 => ?_
    have hn2 := hw2.nxt
    have p0 : o2 0 0 = _ := (hw2.old 0 0 (by omega) (by omega) (by omega) (by omega)).trans ((set_ne (by omega)).trans g0)
    have p1 : o2 1 0 = _ := (hw2.old 1 0 (by omega) (by omega) (by omega) (by omega)).trans set_eq
    have p2 : o2 2 0 = _ := (hw2.old 2 0 (by omega) (by omega) (by omega) (by omega)).trans ((set_ne (by omega)).trans g2)
    have hH2 : HasSt o2 fh fu fm th tu tm (Es.mid c s k) := by rw [hmid]; exact hw2.has
    simp only [go_sem, ↓reduceIte, decide_eq_true_eq, reduceCtorEq, Nat.reduceEqDiff, Nat.reduceLT, Nat.reduceLeDiff, Nat.reduceAdd, Nat.reduceSub, Nat.reduceMul, Nat.reduceGT, Int.reduceNeg, Int.reduceToNat, and_true, true_and, and_false, false_and, List.getElem?_toArray, List.getElem?_cons_zero, List.getElem?_cons_succ, List.cons_append, List.nil_append, if_true, if_false, Option.getD_some, Option.isSome_some, Bool.false_eq_true, List.append_nil, List.drop_zero, List.drop_succ_cons, Bool.cond_false_right, Bool.cond_false_left, Bool.cond_true_left, Bool.cond_true_right, ite_self, Bool.not_true, Bool.not_false, cond_true, cond_false, List.size_toArray, implies_true, true_implies, false_implies, List.all_cons, List.all_nil, List.nodup_cons, List.nodup_nil, List.mem_cons, List.not_mem_nil, or_false, false_or, not_false_eq_true, decide_true, Bool.and_true, Bool.and_self, p0, p1, p2]
    refine begin_spec' _ _ _ _ c (Es.mid c s k) fh fu fm _ _ _ _ th tu tm _ _ _ hmd hmh hmu hml hH2 (by omega) hfine (by omega) fun o3 n3 hw3 => ?_
    have hn3 := hw3.1
    have q1 : o3 1 0 = _ := (hw3.2.2 1 0 (by omega) (by omega)).trans p1
    have q2 : o3 2 0 = _ := (hw3.2.2 2 0 (by omega) (by omega)).trans p2
    simp only [go_sem, ↓reduceIte, decide_eq_true_eq, reduceCtorEq, Nat.reduceEqDiff, Nat.reduceLT, Nat.reduceLeDiff, Nat.reduceAdd, Nat.reduceSub, Nat.reduceMul, Nat.reduceGT, Int.reduceNeg, Int.reduceToNat, and_true, true_and, and_false, false_and, List.getElem?_toArray, List.getElem?_cons_zero, List.getElem?_cons_succ, List.cons_append, List.nil_append, if_true, if_false, Option.getD_some, Option.isSome_some, Bool.false_eq_true, List.append_nil, List.drop_zero, List.drop_succ_cons, Bool.cond_false_right, Bool.cond_false_left, Bool.cond_true_left, Bool.cond_true_right, ite_self, Bool.not_true, Bool.not_false, cond_true, cond_false, List.size_toArray, implies_true, true_implies, false_implies, List.all_cons, List.all_nil, List.nodup_cons, List.nodup_nil, List.mem_cons, List.not_mem_nil, or_false, false_or, not_false_eq_true, decide_true, Bool.and_true, Bool.and_self, q1, q2]
    rw [hst]
    have hHB := has_wrote hH2 hw3 (by omega)
    rw [← Es.begin_eq hM.ml] at hHB
    refine Fz_tup ⟨HasSt.fz' (hHB.set (by omega) _ _) ?_ ?_ ?_ ?_, .v _, trivial⟩
    · rw [Es.begin_day hM.ml]; exact hmd
    · rw [Es.begin_holders hM.ml]; exact hmh
    · rw [Es.begin_used hM.ml]; exact hmu
    · rw [Es.begin_len hM.ml]; exact hml
end Tryd
end Go.Proofs
end
section
namespace Go.Proofs
open Go Go.Abs
set_option linter.unusedSimpArgs false
set_option linter.unusedVariables false
set_option maxRecDepth 10000
namespace Tryd
theorem doerX_spec (c : Es.Contract) (s : Es.State) (a : Int) (hf : Es.Fits c) (hs : Es.SFits s) : APure M 21 [conD c, staD s, .v (.int .i64 a)] (.v (.int .i64 (Es.doerX c s a))) := by
  refine pure_of gpu func21 rfl results21 ntmps21 (by simp) ⟨pu_conD _, pu_staD _, .v _, trivial⟩ ?_
  intro b
  simp only [go_sem, ↓reduceIte, decide_eq_true_eq, reduceCtorEq, Nat.reduceEqDiff, Nat.reduceLT, Nat.reduceLeDiff, Nat.reduceAdd, Nat.reduceSub, Nat.reduceMul, Nat.reduceGT, Int.reduceNeg, Int.reduceToNat, and_true, true_and, and_false, false_and, List.getElem?_toArray, List.getElem?_cons_zero, List.getElem?_cons_succ, List.cons_append, List.nil_append, if_true, if_false, Option.getD_some, Option.isSome_some, Bool.false_eq_true, List.append_nil, List.drop_zero, List.drop_succ_cons, Bool.cond_false_right, Bool.cond_false_left, Bool.cond_true_left, Bool.cond_true_right, ite_self, Bool.not_true, Bool.not_false, cond_true, cond_false, List.size_toArray, implies_true, true_implies, false_implies, List.all_cons, List.all_nil, List.nodup_cons, List.nodup_nil, List.mem_cons, List.not_mem_nil, or_false, false_or, not_false_eq_true, decide_true, Bool.and_true, Bool.and_self]
  repeat' (first | ((with_reducible refine call_at M_P M_G (sValid_spec c s hf hs) ?_); simp only [go_sem, ↓reduceIte, decide_eq_true_eq, reduceCtorEq, Nat.reduceEqDiff, Nat.reduceLT, Nat.reduceLeDiff, Nat.reduceAdd, Nat.reduceSub, Nat.reduceMul, Nat.reduceGT, Int.reduceNeg, Int.reduceToNat, and_true, true_and, and_false, false_and, List.getElem?_toArray, List.getElem?_cons_zero, List.getElem?_cons_succ, List.cons_append, List.nil_append, if_true, if_false, Option.getD_some, Option.isSome_some, Bool.false_eq_true, List.append_nil, List.drop_zero, List.drop_succ_cons, Bool.cond_false_right, Bool.cond_false_left, Bool.cond_true_left, Bool.cond_true_right, ite_self, Bool.not_true, Bool.not_false, cond_true, cond_false, List.size_toArray, implies_true, true_implies, false_implies, List.all_cons, List.all_nil, List.nodup_cons, List.nodup_nil, List.mem_cons, List.not_mem_nil, or_false, false_or, not_false_eq_true, decide_true, Bool.and_true, Bool.and_self]) | (with_reducible refine And.intro ?_ ?_) | ((with_reducible refine ite_cases ?_ ?_) <;> intro _))
  all_goals first
    | (first | (simp [Es.doerX, *]; done) | (simp [Es.doerX, *]; omega) | (simp_all [Es.doerX]; done) | (simp_all [Es.doerX]; omega))
    | (have hv : Es.sValid c s = true := by simpa using ‹(!Es.sValid c s) = false›
       have ha : 0 ≤ a ∧ a < Es.len c.acts := by
         have h1 : decide (a < 0) = false := ‹_›
         have h2 : ¬ Es.len c.acts ≤ a := ‹_›
         have h3 := of_decide_eq_false h1
         omega
       refine call_at M_P M_G (doer_spec c s a ha (fun hr => (Es.sValid_iff.1 hv).1.role ha hr)) ?_
       simp only [go_sem, ↓reduceIte, decide_eq_true_eq, reduceCtorEq, Nat.reduceEqDiff, Nat.reduceLT, Nat.reduceLeDiff, Nat.reduceAdd, Nat.reduceSub, Nat.reduceMul, Nat.reduceGT, Int.reduceNeg, Int.reduceToNat, and_true, true_and, and_false, false_and, List.getElem?_toArray, List.getElem?_cons_zero, List.getElem?_cons_succ, List.cons_append, List.nil_append, if_true, if_false, Option.getD_some, Option.isSome_some, Bool.false_eq_true, List.append_nil, List.drop_zero, List.drop_succ_cons, Bool.cond_false_right, Bool.cond_false_left, Bool.cond_true_left, Bool.cond_true_right, ite_self, Bool.not_true, Bool.not_false, cond_true, cond_false, List.size_toArray, implies_true, true_implies, false_implies, List.all_cons, List.all_nil, List.nodup_cons, List.nodup_nil, List.mem_cons, List.not_mem_nil, or_false, false_or, not_false_eq_true, decide_true, Bool.and_true, Bool.and_self]
       have e1 : decide (a < 0) = false := by simpa using ha.1
       have e2 : decide (Es.len c.acts ≤ a) = false := by simpa using ha.2
       rw [show Es.doerX c s a = Es.doer c s a by unfold Es.doerX; rw [if_neg (by rw [hv, e1, e2]; simp)]]
       rfl)
end Tryd
end Go.Proofs
end
section
/-
  Plain laws of the states of a contract, part 3: what the statements ask.
-/
namespace Es
theorem start_cases (c : Contract) (s : State) : ((start c).2 = 0 ∧ sValid c (start c).1 = true ∧ (start c).1.day = 0) ∨ ((start c).2 = 1 ∧ sValid c s = false) := by
  unfold start
  by_cases h : (valid2 c).1 = 0
  · rw [if_neg (by simp [h])]
    exact .inl ⟨rfl, start_valid h, by rw [begin_day (core_start h).ml]; rfl⟩
  · rw [if_pos (by simpa using h)]
    refine .inr ⟨rfl, ?_⟩
    cases hv : sValid c s with
    | false => rfl
    | true => exact absurd (sValid_iff.1 hv).1.con h
theorem step_arg {c : Contract} {s : State} {k : Int} (h : sValid c s = false ∨ k < -1 ∨ len c.acts ≤ k) : step c s k = (⟨0, [], [], []⟩, 1) := by
  unfold step
  rw [if_pos]
  rcases h with h | h | h
  · simp [h]
  · simp [h]
  · simp [h]
theorem step_state {c : Contract} {s : State} {k : Int} (h : sValid c s = true) (h1 : -1 ≤ k) (h2 : k < len c.acts) (hd : s.day = c.days) : step c s k = (⟨0, [], [], []⟩, 13) := by
  unfold step
  rw [if_neg (by simp [h]; omega), if_pos (by simpa using hd)]
theorem step_fine {c : Contract} {s : State} {k : Int} (h : sValid c s = true) (h1 : -1 ≤ k) (h2 : k < len c.acts) (hd : s.day ≠ c.days) : (step c s k).2 = 0 ∧ sValid c (step c s k).1 = true := by
  have h0 : (step c s k).2 = 0 := by
    unfold step
    rw [if_neg (by simp [h]; omega), if_neg (by simpa using hd)]
  exact ⟨h0, (step_ok h0).valid⟩
theorem step_refused {c : Contract} {s : State} {k : Int} (h : (step c s k).2 ≠ 0) : (step c s k).1 = ⟨0, [], [], []⟩ := by
  unfold step at h ⊢
  split
  · rfl
  · split
    · rfl
    · rename_i h1 h2; rw [if_neg h1, if_neg h2] at h; exact absurd rfl h
theorem law_states (c : Contract) (s : State) (k : Int) : ((start c).2 = 0 ∧ sValid c (start c).1 = true ∧ (start c).1.day = 0 ∧
    (((sValid c s = false ∨ k < -1 ∨ len c.acts ≤ k) ∧ (step c s k).2 = 1) ∨ (sValid c s = true ∧ ¬ k < -1 ∧ ¬ len c.acts ≤ k ∧ ((s.day = c.days ∧ (step c s k).2 = 13) ∨ (s.day ≠ c.days ∧ (step c s k).2 = 0 ∧ sValid c (step c s k).1 = true))))) ∨ ((start c).2 = 1 ∧ sValid c s = false) := by
  rcases start_cases c s with ⟨h1, h2, h3⟩ | h
  · refine .inl ⟨h1, h2, h3, ?_⟩
    by_cases hb : sValid c s = false ∨ k < -1 ∨ len c.acts ≤ k
    · exact .inl ⟨hb, by rw [step_arg hb]⟩
    · simp only [not_or, Bool.not_eq_false] at hb
      refine .inr ⟨hb.1, hb.2.1, hb.2.2, ?_⟩
      by_cases hd : s.day = c.days
      · exact .inl ⟨hd, by rw [step_state hb.1 (by omega) (by omega) hd]⟩
      · exact .inr ⟨hd, step_fine hb.1 (by omega) (by omega) hd⟩
  · exact .inr h
end Es
end
section
/-
  Plain laws of the states of a contract, part 4: what the other statements ask.
-/
namespace Es
/-- A mark after a step. -/
theorem Stepped.at_end {c : Contract} {s t : State} {k : Int} (h : Stepped c s k t) {i : Nat} (hi : i < s.marks.length) (he : endedB (at_ s.marks (i : Int)) = true) : at_ t.marks (i : Int) = at_ s.marks (i : Int) := by
  have hr : runs (at_ s.marks (i : Int)) = false := by
    simp only [endedB, Bool.or_eq_true, beq_iff_eq] at he
    simp only [runs, Bool.or_eq_false_iff, beq_eq_false_iff_ne]
    omega
  have hm : at_ (mid c s k).marks (i : Int) = at_ s.marks (i : Int) := by rw [mid_at h.pre.ml hi, midM_still hr]
  have hb := h.began.old i (by rw [mid_len]; exact hi) (by
    rw [hm]; simp only [endedB, Bool.or_eq_true, beq_iff_eq] at he; omega)
  rw [hb, hm]
theorem Stepped.not_idle {c : Contract} {s t : State} {k : Int} (h : Stepped c s k t) {i : Nat} (hi : i < s.marks.length) (he : (at_ s.marks (i : Int)).status ≠ 0) : at_ t.marks (i : Int) = at_ (mid c s k).marks (i : Int) ∧ (at_ (mid c s k).marks (i : Int)).status ≠ 0 := by
  have hm := mid_at (k := k) h.pre.ml hi
  have hst : (at_ (mid c s k).marks (i : Int)).status ≠ 0 := by
    rw [hm]
    rcases midM_st (c := c) (s := s) (k := k) (i := i) (m := at_ s.marks (i : Int)) with h1 | h1
    · rw [h1]; exact he
    · exact h1.1
  exact ⟨h.began.old i (by rw [mid_len]; exact hi) hst, hst⟩
theorem Stepped.not_live {c : Contract} {s t : State} {k : Int} (h : Stepped c s k t) {i : Nat} (hi : i < s.marks.length) (he : (at_ s.marks (i : Int)).status = 2) : (at_ t.marks (i : Int)).status ≠ 1 := by
  obtain ⟨h1, _⟩ := h.not_idle hi (by omega)
  rw [h1, mid_at h.pre.ml hi]
  rcases midM_st (c := c) (s := s) (k := k) (i := i) (m := at_ s.marks (i : Int)) with h2 | h2
  · rw [h2]; omega
  · exact h2.2
theorem Stepped.dayE {c : Contract} {s t : State} {k : Int} (h : Stepped c s k t) : t.day = if k = -1 then s.day + 1 else s.day := by
  rw [h.eq, begin_day h.core.ml]
  unfold mid
  by_cases hk : k = -1
  · rw [if_pos (by simpa using hk), if_pos hk]
  · rw [if_neg (by simpa using hk), if_neg hk]; exact do_day c s k
/-- What SystemNoReturn asks. -/
theorem law_noReturn {c : Contract} {s : State} {k : Int} (h : (step c s k).2 = 0) :
    (step c s k).1.marks.length = s.marks.length ∧ (step c s k).1.day = (if k = -1 then s.day + 1 else s.day) ∧
    ∀ i : Nat, i < s.marks.length → ((endedB (at_ s.marks (i : Int)) = true → at_ s.marks (i : Int) = at_ (step c s k).1.marks (i : Int)) ∧
      ((at_ s.marks (i : Int)).status ≠ 0 → (at_ (step c s k).1.marks (i : Int)).status ≠ 0) ∧ ((at_ s.marks (i : Int)).status = 2 → (at_ (step c s k).1.marks (i : Int)).status ≠ 1)) := by
  have hS := step_ok h
  refine ⟨hS.len, hS.dayE, fun i hi => ⟨fun he => (hS.at_end hi he).symm, fun he => ?_, fun he => hS.not_live hi he⟩⟩
  obtain ⟨h1, h2⟩ := hS.not_idle hi he
  rw [h1]; exact h2
/-- Lengths after a step. -/
theorem law_fits {c : Contract} {s : State} {k : Int} (h : (step c s k).2 = 0) : fitsB c s (step c s k).1 = true := by
  have hS := step_ok h
  have hv := (sValid_iff.1 hS.valid).1
  have hp := hS.pre
  simp only [fitsB, len, Bool.and_eq_true, beq_iff_eq]
  have := hv.hl; have := hv.ul; have := hv.ml; have := hp.hl; have := hp.ul; have := hp.ml
  omega
/-- What SystemActs asks of the marks. -/
def named (c : Contract) (k : Int) (i : Nat) : Bool :=
  let x := at_ c.clauses (i : Int)
  x.act == k || x.pause == k || x.resume == k || ((at_ c.acts k).kind == 3 && x.role == (at_ c.acts k).give)
theorem actM_same {c : Contract} {s : State} {k : Int} {i : Nat} {m : Mark} (hn : named c k i = false) : actM c s k i m = m := by
  unfold named at hn
  simp only [Bool.or_eq_false_iff, Bool.and_eq_false_iff, beq_eq_false_iff_ne] at hn
  obtain ⟨⟨⟨h1, h2⟩, h3⟩, h4⟩ := hn
  have e1 : actMark c k (doer c s k) i m = m := by
    unfold actMark
    simp [h1, h2, h3]
  have e2 : (if runs m then actMark c k (doer c s k) i m else m) = m := by rw [e1]; split <;> rfl
  unfold actM
  simp only [e2]
  split
  · rfl
  · split
    · rename_i h3'
      have h5 : (at_ c.clauses (i : Int)).role ≠ (at_ c.acts k).give := by
        rcases h4 with h4 | h4
        · exact absurd (by simpa using h3') h4
        · exact h4
      have : novMark c (at_ c.acts k) i m = m := by
        unfold novMark; rw [if_neg (by simp [h5])]
      rw [this]; split <;> rfl
    · rfl
theorem runs_ne {m : Mark} (h : runs m = true) : m.status ≠ 0 := by rw [runs_iff] at h; omega
theorem law_acts_marks {c : Contract} {s : State} {k : Int} (h : (step c s k).2 = 0) (hk : 0 ≤ k) {i : Nat} (hi : i < s.marks.length) (hr : runs (at_ s.marks (i : Int)) = true) (hn : named c k i = false) : at_ s.marks (i : Int) = at_ (step c s k).1.marks (i : Int) := by
  have hS := step_ok h
  obtain ⟨h1, _⟩ := hS.not_idle hi (runs_ne hr)
  rw [h1, mid_at hS.pre.ml hi]
  unfold midM
  rw [if_neg (by simp; omega), actM_same hn]
theorem mid_do {c : Contract} {s : State} {k : Int} (hk : 0 ≤ k) : mid c s k = doS c s k := by unfold mid; rw [if_neg (by simp; omega)]
theorem law_acts_holders {c : Contract} {s : State} {k : Int} (h : (step c s k).2 = 0) (hk : 0 ≤ k) {i : Nat} (hi : i < s.holders.length) :
    at_ s.holders (i : Int) = at_ (step c s k).1.holders (i : Int) ∨ ((at_ c.acts k).kind ≠ 1 ∧ (i : Int) = (at_ c.acts k).give ∧ at_ (step c s k).1.holders (i : Int) = (at_ c.acts k).to) := by
  have hS := step_ok h
  rw [hS.hold, mid_do hk, do_holders]
  split
  · exact .inl rfl
  · rename_i hn
    simp only [not_or] at hn
    have hg := hS.pre.give ⟨hk, hS.rng.2⟩ hn.2
    by_cases he : i = (at_ c.acts k).give.toNat
    · refine .inr ⟨hn.2, by omega, ?_⟩
      rw [← he]; simp [at_, List.getD, hi]
    · left
      generalize (at_ c.acts k).give.toNat = g at he
      simp [at_, List.getD, List.getElem?_set, Ne.symm he]
/-- An act that assigns or novates changes nothing a second time. -/
theorem law_acts_again {c : Contract} {s : State} {k : Int} (h : (step c s k).2 = 0) (hk : 0 ≤ k) (hn : (at_ c.acts k).kind ≠ 1) :
    step c (step c s k).1 k = ((step c s k).1, 0) ∧ at_ (step c s k).1.used k = true := by
  have hS := step_ok h
  have hu : at_ (step c s k).1.used k = true := by
    rw [hS.use, mid_do hk, do_used]
    split
    · rename_i hh
      rcases hh with hh | hh
      · exact hh
      · exact absurd hh hn
    · have : k.toNat < s.used.length := by have := hS.pre.ul; have := hS.rng.2; simp only [len] at this; omega
      simp [at_, List.getD, this]
  refine ⟨?_, hu⟩
  have hv := hS.valid
  have hd : (step c s k).1.day = s.day := by rw [hS.dayE, if_neg (by omega)]
  have hidle := (sValid_iff.1 hv).2
  have hml := (sValid_iff.1 hv).1.ml
  generalize (step c s k).1 = t at *
  unfold step
  rw [if_neg (by simp [hv]; have := hS.rng; omega), if_neg (by rw [hd]; simpa using hS.day), if_neg (by simp; omega)]
  have hdo : doS c t k = t := by unfold doS; rw [if_pos hu]
  rw [hdo, begin_none fun i hi => hidle i (by omega)]
/-- What SystemTicks asks. -/
theorem older_ne {c : Contract} {x : Clause} {m : Mark} (h : runs m = true) : older x { m with left := m.left - 1 } ≠ m := by
  intro he
  have hs : (older x { m with left := m.left - 1 }).status = m.status := by rw [he]
  rw [runs_iff] at h
  unfold older at hs
  split at hs
  · split at hs
    · rename_i hg
      simp only [Bool.and_eq_true, beq_iff_eq] at hg
      simp only at hs hg; omega
    · simp only at hs; omega
  · split at hs
    · simp only at hs; omega
    · simp only at hs; omega
theorem law_ticks_marks {c : Contract} {s : State} (h : (step c s (-1)).2 = 0) {i : Nat} (hi : i < s.marks.length) (hr : runs (at_ s.marks (i : Int)) = true) :
    (at_ s.marks (i : Int) != at_ (step c s (-1)).1.marks (i : Int)) = countsB c (at_ c.clauses (i : Int)) (at_ s.marks (i : Int)) s.day := by
  have hS := step_ok h
  obtain ⟨h1, _⟩ := hS.not_idle hi (runs_ne hr)
  rw [h1, mid_at hS.pre.ml hi]
  unfold midM dayM
  rw [if_pos (by rfl), if_pos hr]
  have hc : countsB c (at_ c.clauses (i : Int)) (at_ s.marks (i : Int)) s.day = !((at_ s.marks (i : Int)).paused || ((at_ c.clauses (i : Int)).business && c.off.contains s.day)) := by
    unfold countsB
    simp only [hr, Bool.not_true, Bool.false_or]
    cases hp : (at_ s.marks (i : Int)).paused with
    | true => simp
    | false =>
      simp only [Bool.false_eq_true, if_false, Bool.false_or]
      congr 1
      cases hb : (at_ c.clauses (i : Int)).business with
      | false => simp
      | true =>
        simp only [Bool.and_true, Bool.true_and]
        rw [Bool.eq_iff_iff]
        simp only [List.any_eq_true, beq_iff_eq, List.contains_iff_mem]
        exact ⟨fun ⟨x, h1, h2⟩ => h2 ▸ h1, fun h => ⟨_, h, rfl⟩⟩
  rw [hc]
  unfold dayMark
  by_cases hp : ((at_ s.marks (i : Int)).paused || ((at_ c.clauses (i : Int)).business && c.off.contains s.day)) = true
  · rw [if_pos hp, hp]; simp
  · rw [if_neg hp]
    have hp' : ((at_ s.marks (i : Int)).paused || ((at_ c.clauses (i : Int)).business && c.off.contains s.day)) = false := by simpa using hp
    rw [hp']
    simp only [Bool.not_false, bne_iff_ne, ne_eq]
    split
    · exact fun he => older_ne (c := c) hr he.symm
    · intro he
      have := congrArg Mark.left he
      simp only at this
      omega
theorem law_ticks_rest {c : Contract} {s : State} (h : (step c s (-1)).2 = 0) : (step c s (-1)).1.holders = s.holders ∧ (step c s (-1)).1.used = s.used := by
  have hS := step_ok h
  rw [hS.hold, hS.use]
  exact ⟨rfl, rfl⟩
/-- What SystemStarts asks. -/
theorem law_starts {c : Contract} {s : State} {k : Int} (h : (step c s k).2 = 0) {i : Nat} (hi : i < s.marks.length) (h0 : (at_ s.marks (i : Int)).status = 0) (h1 : (at_ (step c s k).1.marks (i : Int)).status ≠ 0) :
    at_ (step c s k).1.marks (i : Int) = ⟨1, (at_ c.clauses (i : Int)).after, 0, if (at_ c.clauses (i : Int)).kind != 4 then at_ (step c s k).1.holders (at_ c.clauses (i : Int)).role else -1, false⟩ ∧
    ∀ x ∈ (at_ c.clauses (i : Int)).start, holdsB (step c s k).1.marks x = true := by
  have hS := step_ok h
  have hr : runs (at_ s.marks (i : Int)) = false := by simp [runs, h0]
  have hm : at_ (mid c s k).marks (i : Int) = at_ s.marks (i : Int) := by rw [mid_at hS.pre.ml hi, midM_still hr]
  rcases hS.began.new i (by rw [mid_len]; exact hi) (by rw [hm]; exact h0) with h2 | ⟨h2, _, h3⟩
  · rw [h2, hm] at h1; exact absurd h0 h1
  · have hhold := hS.hold
    generalize (step c s k).1 = t at *
    refine ⟨?_, fun x hx => ?_⟩
    · rw [h2, hhold]; rfl
    · have hf := h3 x hx
      have hco := clauseOk_start (valid2_clause (c := c) (by simpa using hS.pre.con) (j := i) (by rw [← hS.pre.ml]; exact hi))
      have hok := hco.2 x hx
      simp only [condOk, within, Bool.and_eq_true, decide_eq_true_eq] at hok
      have h4 := hok.2
      unfold fails at hf
      unfold holdsB
      simp only at hf
      by_cases e1 : x.is = 1
      · rw [if_pos (by simpa using e1)]
        rw [if_neg (by simp [e1]), if_neg (by simp [e1]), if_neg (by simp [e1])] at hf
        simpa using hf
      · rw [if_neg (by simpa using e1)]
        have h5 : x.is = 2 ∨ x.is = 3 ∨ x.is = 4 := by omega
        rcases h5 with e | e | e <;> simp [e] at hf ⊢ <;> exact hf
/-- What SystemBreach asks. -/
theorem breach_iff {c : Contract} {s : State} {p : Int} : breach c s p = true ↔ sValid c s = true ∧ 0 ≤ p ∧ ∃ i : Nat, i < s.marks.length ∧ (at_ c.clauses (i : Int)).final = true ∧ (at_ s.marks (i : Int)).status = 4 ∧ (at_ s.marks (i : Int)).bearer = p := by
  unfold breach
  split
  · rename_i h
    simp only [Bool.or_eq_true, Bool.not_eq_true', decide_eq_true_eq] at h
    constructor
    · intro h'; cases h'
    · rintro ⟨h1, h2, _⟩
      rcases h with h | h
      · rw [h1] at h; cases h
      · omega
  · rename_i h
    simp only [Bool.or_eq_true, Bool.not_eq_true', decide_eq_true_eq, not_or, Bool.not_eq_false] at h
    simp only [List.any_eq_true, List.mem_range, Bool.and_eq_true, beq_iff_eq]
    constructor
    · rintro ⟨i, h1, ⟨h2, h3⟩, h4⟩; exact ⟨h.1, by omega, i, h1, h2, h3, h4⟩
    · rintro ⟨_, _, i, h1, h2, h3, h4⟩; exact ⟨i, h1, ⟨h2, h3⟩, h4⟩
theorem law_breach_stays {c : Contract} {s : State} {k p : Int} (h : (step c s k).2 = 0) (hb : breach c s p = true) : breach c (step c s k).1 p = true := by
  have hS := step_ok h
  rw [breach_iff] at hb ⊢
  obtain ⟨_, hp, i, hi, h1, h2, h3⟩ := hb
  have he := hS.at_end hi (by simp [endedB, h2])
  exact ⟨hS.valid, hp, i, by rw [hS.len]; exact hi, h1, by rw [he]; exact h2, by rw [he]; exact h3⟩
theorem counted_fail {x : Clause} {m : Mark} (h0 : m.status ≠ 4) (h : (countedM x m).status = 4) : x.kind ≠ 4 ∧ (countedM x m).bearer = m.bearer := by
  unfold countedM at h ⊢
  split
  · rename_i hk
    rw [if_pos hk] at h
    split at h
    · simp [ended] at h
    · exact absurd h h0
  · rename_i hk
    rw [if_neg hk] at h
    split
    · rename_i hk2
      rw [if_pos hk2] at h
      simp only [beq_iff_eq] at hk2
      split at h
      · exact absurd h h0
      · refine ⟨by omega, ?_⟩
        rename_i hp
        rw [if_neg hp]; rfl
    · rename_i hk2
      rw [if_neg hk2] at h
      simp [ended] at h
theorem actMark_fail {c : Contract} {k w : Int} {i : Nat} {m : Mark} (h0 : m.status ≠ 4) (h : (actMark c k w i m).status = 4) : (actMark c k w i m).bearer = w := by
  unfold actMark at h ⊢
  simp only at h ⊢
  have e1 : (if (at_ c.clauses (i : Int)).pause == k then { m with paused := true } else m).status = m.status := by split <;> rfl
  generalize (if (at_ c.clauses (i : Int)).pause == k then { m with paused := true } else m) = m1 at *
  have e2 : (if (at_ c.clauses (i : Int)).resume == k then { m1 with paused := false } else m1).status = m1.status := by split <;> rfl
  generalize (if (at_ c.clauses (i : Int)).resume == k then { m1 with paused := false } else m1) = m2 at *
  split
  · rename_i hc
    rw [if_pos hc] at h
    obtain ⟨h1, h2⟩ := counted_fail (by rw [e2, e1]; exact h0) h
    rw [h2]
    simp only [Bool.and_eq_true, Bool.or_eq_true, beq_iff_eq] at hc
    rcases hc.2 with hh | hh
    · exact absurd hh h1
    · exact hh
  · rename_i hc
    rw [if_neg hc, e2, e1] at h
    exact absurd h h0
theorem actM_fail {c : Contract} {s : State} {k : Int} {i : Nat} {m : Mark} (h0 : m.status ≠ 4) (h : (actM c s k i m).status = 4) : (actM c s k i m).bearer = doer c s k := by
  have key : ∀ m1 : Mark, (m1.status = 4 → m1.bearer = doer c s k) → (if (at_ c.acts k).kind == 3 then (if runs m1 then novMark c (at_ c.acts k) i m1 else m1) else m1).status = 4 → (if (at_ c.acts k).kind == 3 then (if runs m1 then novMark c (at_ c.acts k) i m1 else m1) else m1).bearer = doer c s k := by
    intro m1 h1 h2
    split
    · rename_i h3
      rw [if_pos h3] at h2
      split
      · rename_i hr
        rw [if_pos hr, novMark_st] at h2
        rw [runs_iff] at hr; omega
      · rename_i hr
        rw [if_neg hr] at h2; exact h1 h2
    · rename_i h3
      rw [if_neg h3] at h2; exact h1 h2
  unfold actM at h ⊢
  split
  · rename_i hu
    rw [if_pos hu] at h; exact absurd h h0
  · rename_i hu
    rw [if_neg hu] at h
    refine key _ (fun h1 => ?_) h
    split
    · rename_i hr
      rw [if_pos hr] at h1
      exact actMark_fail h0 h1
    · rename_i hr
      rw [if_neg hr] at h1; exact absurd h1 h0
theorem law_breach_comes {c : Contract} {s : State} {k p : Int} (h : (step c s k).2 = 0) (hn : breach c s p = false) (hb : breach c (step c s k).1 p = true) : k = -1 ∨ doerX c s k = p := by
  have hS := step_ok h
  have hv : sValid c s = true := sValid_iff.2 ⟨hS.pre, hS.idle⟩
  obtain ⟨_, hp, i, hi, h1, h2, h3⟩ := breach_iff.1 hb
  rw [hS.len] at hi
  by_cases hk : k = -1
  · exact .inl hk
  right
  have hk0 : 0 ≤ k := by have := hS.rng.1; omega
  have hst : (at_ s.marks (i : Int)).status ≠ 4 := fun h4 => by
    have he := hS.at_end hi (by simp [endedB, h4])
    have : breach c s p = true := breach_iff.2 ⟨hv, hp, i, hi, h1, h4, by rw [← he]; exact h3⟩
    rw [hn] at this; cases this
  have hst0 : (at_ s.marks (i : Int)).status ≠ 0 := fun h0 => by
    have hr : runs (at_ s.marks (i : Int)) = false := by simp [runs, h0]
    have hm : at_ (mid c s k).marks (i : Int) = at_ s.marks (i : Int) := by rw [mid_at hS.pre.ml hi, midM_still hr]
    rcases hS.began.new i (by rw [mid_len]; exact hi) (by rw [hm]; exact h0) with g | ⟨g, _⟩
    · rw [g, hm, h0] at h2; simp at h2
    · rw [g] at h2; simp [startMark] at h2
  obtain ⟨e1, _⟩ := hS.not_idle hi hst0
  rw [e1, mid_at hS.pre.ml hi] at h2 h3
  unfold midM at h2 h3
  rw [if_neg (by simpa using hk)] at h2 h3
  have := actM_fail hst h2
  unfold doerX
  rw [if_neg (by simp [hv]; have := hS.rng.2; omega), ← this, h3]
end Es
end
section
/-
  What the functions of project compute, as plain functions, and plain laws of views.
-/
namespace Es
def private_ (a : ActT) : Bool := a.kind == 1 && a.to != -1
def sees (c : Contract) (s : State) (p k : Int) : Bool := !private_ (at_ c.acts k) || at_ s.holders (at_ c.acts k).to == p || doerX c s k == p
def seesX (c : Contract) (s : State) (p k : Int) : Bool := sValid c s && decide (0 ≤ p) && decide (p < c.parties) && decide (0 ≤ k) && decide (k < len c.acts) && sees c s p k
/-- The steps that are executed, with the states before them. -/
def trail (c : Contract) : List Int → State × Int → List (Int × State)
  | [], _ => []
  | k :: l, p => if p.2 == 0 then (if (step c p.1 k).2 == 0 then (k, p.1) :: trail c l (step c p.1 k) else []) else []
def keepB (c : Contract) (ps : List Int) (x : Int × State) : Bool := x.1 == -1 || ps.any fun p => sees c x.2 p x.1
def kept (c : Contract) (ps : List Int) (l : List Int) (p : State × Int) : List Int := ((trail c l p).filter (keepB c ps)).map (·.1)
def goesOn (c : Contract) (l : List Int) (p : State × Int) : State × Int := l.foldl (fun p k => if p.2 == 0 then step c p.1 k else p) p
theorem runL_goes (c : Contract) (l : List Int) : runL c l = goesOn c l (start c) := rfl
def joint (c : Contract) (l ps : List Int) : List Int × Int :=
  if !((start c).2 == 0) then ([], (start c).2)
  else if len ps == 0 || decide (12 < len ps) || (ps.any fun p => decide (p < 0) || decide (c.parties ≤ p)) then ([], 1)
  else if decide (4000 < len l) then ([], 3)
  else if (runL c l).2 == 0 then (kept c ps l (start c), 0) else ([], (runL c l).2)
def view (c : Contract) (l : List Int) (p : Int) : List Int × Int := joint c l [p]

/-! ### runs -/
theorem goesOn_nil (c : Contract) (p : State × Int) : goesOn c [] p = p := rfl
theorem goesOn_cons (c : Contract) (k : Int) (l : List Int) (p : State × Int) : goesOn c (k :: l) p = goesOn c l (if p.2 == 0 then step c p.1 k else p) := rfl
theorem goesOn_app (c : Contract) (a b : List Int) (p : State × Int) : goesOn c (a ++ b) p = goesOn c b (goesOn c a p) := by simp [goesOn, List.foldl_append]
theorem goesOn_stop {c : Contract} {p : State × Int} (h : ¬ (p.2 == 0) = true) (l : List Int) : goesOn c l p = p := runL_stop h l
theorem goesOn_ok {c : Contract} {l : List Int} {p : State × Int} (h : (goesOn c l p).2 = 0) : p.2 = 0 := by
  by_cases hp : p.2 = 0
  · exact hp
  · rw [goesOn_stop (by simpa using hp)] at h; exact h
theorem goesOn_pre {c : Contract} {a b : List Int} {p : State × Int} (h : (goesOn c (a ++ b) p).2 = 0) : (goesOn c a p).2 = 0 := by
  rw [goesOn_app] at h; exact goesOn_ok h
theorem run_take {c : Contract} {l : List Int} (h : (runL c l).2 = 0) (n : Nat) : (runL c (l.take n)).2 = 0 := by
  rw [runL_goes] at *
  exact goesOn_pre (b := l.drop n) (by rw [List.take_append_drop]; exact h)
theorem run_next {c : Contract} {l : List Int} {n : Nat} (hn : n < l.length) (h : (runL c (l.take n)).2 = 0) : runL c (l.take (n + 1)) = step c (runL c (l.take n)).1 (at_ l (n : Int)) := by
  rw [take_at hn, runL_goes, goesOn_app, ← runL_goes, goesOn_cons, goesOn_nil, if_pos (by simpa using h)]
theorem run_refused {c : Contract} {l : List Int} {n : Nat} (hn : n < l.length) (h : (runL c (l.take n)).2 = 0) (h1 : (step c (runL c (l.take n)).1 (at_ l (n : Int))).2 ≠ 0) : (runL c l).2 = (step c (runL c (l.take n)).1 (at_ l (n : Int))).2 := by
  have e1 := run_next hn h
  have e2 : runL c l = goesOn c (l.drop (n + 1)) (runL c (l.take (n + 1))) := by
    rw [runL_goes, runL_goes, ← goesOn_app, List.take_append_drop]
  rw [e2, e1, goesOn_stop (by simpa using h1)]
theorem run_valid {c : Contract} {l : List Int} (h : (runL c l).2 = 0) : sValid c (runL c l).1 = true := by
  have key : ∀ (l : List Int) (p : State × Int), (p.2 = 0 → sValid c p.1 = true) → (goesOn c l p).2 = 0 → sValid c (goesOn c l p).1 = true := by
    intro l
    induction l with
    | nil => intro p hp h; exact hp h
    | cons k l ih =>
      intro p hp h
      rw [goesOn_cons] at h ⊢
      refine ih _ (fun h2 => ?_) h
      by_cases h0 : p.2 = 0
      · rw [if_pos (by simpa using h0)] at h2 ⊢; exact (step_ok h2).valid
      · rw [if_neg (by simpa using h0)] at h2; exact absurd h2 h0
  rw [runL_goes] at *
  refine key l _ (fun h0 => ?_) h
  unfold start at h0 ⊢
  split at h0
  · simp at h0
  · rename_i h1; rw [if_neg h1]; exact start_valid (by simpa using h1)

/-! ### trails -/
theorem trail_app (c : Contract) : ∀ (a b : List Int) (p : State × Int), (goesOn c a p).2 = 0 → trail c (a ++ b) p = trail c a p ++ trail c b (goesOn c a p)
  | [], b, p, _ => by simp [trail, goesOn_nil]
  | k :: a, b, p, h => by
    have h0 : (p.2 == 0) = true := by simpa using goesOn_ok h
    rw [goesOn_cons, if_pos h0] at h
    have h1 : ((step c p.1 k).2 == 0) = true := by simpa using goesOn_ok h
    rw [List.cons_append, trail, trail, if_pos h0, if_pos h1, if_pos h0, if_pos h1, trail_app c a b _ h, goesOn_cons, if_pos h0]; rfl
theorem trail_one {c : Contract} {k : Int} {p : State × Int} (h0 : p.2 = 0) (h1 : (step c p.1 k).2 = 0) : trail c [k] p = [(k, p.1)] := by
  rw [trail, if_pos (by simpa using h0), if_pos (by simpa using h1)]; rfl
theorem trail_fst (c : Contract) : ∀ (l : List Int) (p : State × Int), (goesOn c l p).2 = 0 → (trail c l p).map (·.1) = l
  | [], _, _ => rfl
  | k :: l, p, h => by
    have h0 : (p.2 == 0) = true := by simpa using goesOn_ok h
    rw [goesOn_cons, if_pos h0] at h
    have h1 : ((step c p.1 k).2 == 0) = true := by simpa using goesOn_ok h
    rw [trail, if_pos h0, if_pos h1, List.map_cons, trail_fst c l _ h]
theorem trail_valid (c : Contract) : ∀ (l : List Int) (p : State × Int), ∀ x ∈ trail c l p, (step c x.2 x.1).2 = 0
  | [], _, _, h => by cases h
  | k :: l, p, x, h => by
    rw [trail] at h
    split at h
    · split at h
      · rename_i h1
        rcases List.mem_cons.1 h with rfl | h
        · simpa using h1
        · exact trail_valid c l _ x h
      · cases h
    · cases h
theorem kept_app {c : Contract} {ps a b : List Int} {p : State × Int} (h : (goesOn c a p).2 = 0) : kept c ps (a ++ b) p = kept c ps a p ++ kept c ps b (goesOn c a p) := by
  unfold kept; rw [trail_app c a b p h, List.filter_append, List.map_append]
theorem kept_one {c : Contract} {ps : List Int} {k : Int} {p : State × Int} (h0 : p.2 = 0) (h1 : (step c p.1 k).2 = 0) : kept c ps [k] p = if keepB c ps (k, p.1) then [k] else [] := by
  unfold kept; rw [trail_one h0 h1]; simp only [List.filter_cons, List.filter_nil]; split <;> rfl
theorem kept_nil (c : Contract) (ps : List Int) (p : State × Int) : kept c ps [] p = [] := rfl
theorem kept_sub {c : Contract} {ps l : List Int} {p : State × Int} (h : (goesOn c l p).2 = 0) : (kept c ps l p).Sublist l := by
  unfold kept
  have := (List.filter_sublist (p := keepB c ps) (l := trail c l p)).map (fun x : Int × State => x.1)
  rwa [trail_fst c l p h] at this
theorem kept_next {c : Contract} {ps l : List Int} {n : Nat} (hn : n < l.length) (h : (runL c (l.take n)).2 = 0) (h1 : (step c (runL c (l.take n)).1 (at_ l (n : Int))).2 = 0) :
    kept c ps (l.take (n + 1)) (start c) = kept c ps (l.take n) (start c) ++ if keepB c ps (at_ l (n : Int), (runL c (l.take n)).1) then [at_ l (n : Int)] else [] := by
  rw [runL_goes] at *
  rw [take_at hn, kept_app h, kept_one h h1]
theorem kept_len {c : Contract} {ps l : List Int} {p : State × Int} (h : (goesOn c l p).2 = 0) : (kept c ps l p).length ≤ l.length := (kept_sub h).length_le
end Es
end
section
/-
  Plain laws of views: what the statements about project ask.
-/
namespace Es
/-! ### lists -/
def ints (a b : List Int) : Bool := decide (a = b)
/-- How many numbers of the first list have been met. -/
def wI (a b : List Int) : Nat := b.foldl (fun i y => if decide (i < a.length) && at_ a (i : Int) == y then i + 1 else i) 0
def wIn (a b : List Int) : Bool := wI a b == a.length
def countI (l : List Int) (n : Int) : Nat := l.foldl (fun i y => if y == n then i + 1 else i) 0
theorem wI_go (a : List Int) : ∀ (b : List Int) (i : Nat), i ≤ a.length → (a.drop i).Sublist b → b.foldl (fun i y => if decide (i < a.length) && at_ a (i : Int) == y then i + 1 else i) i = a.length
  | [], i, hi, h => by
    have := List.eq_nil_of_sublist_nil h
    have := List.drop_eq_nil_iff.1 this
    show i = a.length; omega
  | y :: b, i, hi, h => by
    rw [List.foldl_cons]
    by_cases hl : i < a.length
    · rw [drop_at hl] at h
      by_cases he : at_ a (i : Int) = y
      · rw [if_pos (by simp [hl, he])]
        refine wI_go a b (i + 1) hl ?_
        rw [he] at h; exact List.cons_sublist_cons.1 h
      · rw [if_neg (by simp [he])]
        refine wI_go a b i hi ?_
        rw [drop_at hl]
        cases h with
        | cons _ h => exact h
        | cons_cons _ h => exact absurd rfl he
    · rw [if_neg (by simp [hl])]
      refine wI_go a b i hi ?_
      rw [List.drop_eq_nil_iff.2 (by omega)]; exact List.nil_sublist _
theorem wIn_of {a b : List Int} (h : a.Sublist b) : wIn a b = true := by
  unfold wIn wI
  rw [wI_go a b 0 (Nat.zero_le _) (by simpa using h)]; simp
theorem countI_go (n : Int) : ∀ (l : List Int) (i : Nat), l.foldl (fun i y => if y == n then i + 1 else i) i = i + (l.filter (· == n)).length
  | [], i => rfl
  | y :: l, i => by
    rw [List.foldl_cons, countI_go n l, List.filter_cons]
    split <;> simp <;> omega
theorem countI_eq (l : List Int) (n : Int) : countI l n = (l.filter (· == n)).length := by rw [countI, countI_go]; omega

/-! ### joint views -/
theorem joint_ok {c : Contract} {l ps : List Int} (h : (joint c l ps).2 = 0) :
    (start c).2 = 0 ∧ ps ≠ [] ∧ ps.length ≤ 12 ∧ (∀ p ∈ ps, 0 ≤ p ∧ p < c.parties) ∧ (runL c l).2 = 0 ∧ (joint c l ps).1 = kept c ps l (start c) := by
  unfold joint at h ⊢
  split at h
  · rename_i h1; simp at h1; exact absurd h h1
  rename_i h1
  split at h
  · simp at h
  rename_i h2
  split at h
  · simp at h
  rename_i h3
  split at h
  · rename_i h4
    rw [if_neg h1, if_neg h2, if_neg h3, if_pos h4]
    simp only [Bool.or_eq_true, not_or, Bool.not_eq_true, List.any_eq_false, decide_eq_true_eq] at h2
    refine ⟨by simpa using h1, fun he => ?_, ?_, fun p hp => ?_, by simpa using h4, rfl⟩
    · subst he; simp [len] at h2
    · have := h2.1.2; simp only [len] at this; omega
    · have := h2.2 p hp; omega
  · rename_i h4; simp at h4; exact absurd h h4
theorem joint_nil {c : Contract} {l ps : List Int} (h : (joint c l ps).2 ≠ 0) : (joint c l ps).1 = [] := by
  unfold joint at h ⊢
  split
  · rfl
  split
  · rfl
  split
  · rfl
  split
  · rename_i h1 h2 h3 h4; rw [if_neg h1, if_neg h2, if_neg h3, if_pos h4] at h; exact absurd rfl h
  · rfl
theorem joint_of {c : Contract} {l ps : List Int} (h1 : (runL c l).2 = 0) (h2 : ps ≠ []) (h3 : ps.length ≤ 12) (h4 : ∀ p ∈ ps, 0 ≤ p ∧ p < c.parties) (h5 : l.length ≤ 4000) : joint c l ps = (kept c ps l (start c), 0) := by
  have h0 : (start c).2 = 0 := goesOn_ok (by rw [← runL_goes]; exact h1)
  unfold joint
  have h6 : ¬ decide (4000 < len l) = true := by rw [decide_eq_true_eq]; simp only [len]; omega
  have h7 : ¬ (len ps == 0 || decide (12 < len ps) || ps.any fun p => decide (p < 0) || decide (c.parties ≤ p)) = true := by
    have := List.length_pos_iff.2 h2
    simp only [Bool.or_eq_true, not_or, List.any_eq_true, not_exists, not_and, decide_eq_true_eq, len, beq_iff_eq]
    refine ⟨⟨by omega, fun h => ?_⟩, fun p hp => by have := h4 p hp; omega⟩
    have h' : (12 : Int) < (ps.length : Int) := of_decide_eq_true h
    omega
  rw [if_neg (by simp [h0]), if_neg h7, if_neg h6, if_pos (by simpa using h1)]
theorem priv_to {c : Contract} {s : State} {k : Int} (hC : Core c s) (hk : 0 ≤ k ∧ k < len c.acts) (hp : private_ (at_ c.acts k) = true) : 0 ≤ (at_ c.acts k).to ∧ (at_ c.acts k).to < len s.holders := by
  have hV := valid2_ok hC.con
  have hka : k.toNat < c.acts.length := by simp only [len] at hk; omega
  have hact := hV.acts (at_ c.acts k) (by rw [← at_nn]; exact at_mem hka)
  simp only [private_, Bool.and_eq_true, beq_iff_eq, bne_iff_ne] at hp
  have hl := hC.hl
  unfold act at hact
  split at hact
  · rename_i hm; simp [moves, hp.1] at hm
  · split at hact
    · cases hact
    · rename_i h1
      simp only [Bool.or_eq_true, not_or, Bool.and_eq_true, not_and, Bool.not_eq_true', Bool.not_eq_false, role, under, decide_eq_true_eq, bne_iff_ne] at h1
      have := h1.2 hp.2
      simp only [len] at this ⊢; omega
/-- What the joint view of all parties is. -/
theorem keep_all {c : Contract} {s : State} {k : Int} (h : (step c s k).2 = 0) (ps : List Int) (hp : ∀ p, 0 ≤ p → p < c.parties → p ∈ ps) : keepB c ps (k, s) = true := by
  have hS := step_ok h
  have hV := valid2_ok hS.pre.con
  unfold keepB
  by_cases hk : k = -1
  · simp [hk]
  rw [Bool.or_eq_true]; right
  rw [List.any_eq_true]
  by_cases hpr : private_ (at_ c.acts k) = true
  · have hka : k.toNat < c.acts.length := by have := hS.rng; simp only [len] at this; omega
    have hact := hV.acts (at_ c.acts k) (by rw [← at_nn]; exact at_mem hka)
    simp only [private_, Bool.and_eq_true, beq_iff_eq, bne_iff_ne] at hpr
    have hto : 0 ≤ (at_ c.acts k).to ∧ (at_ c.acts k).to < len c.holders := by
      unfold act at hact
      split at hact
      · rename_i hm; simp [moves, hpr.1] at hm
      · split at hact
        · cases hact
        · rename_i h1
          simp only [Bool.or_eq_true, not_or, Bool.and_eq_true, not_and, Bool.not_eq_true', Bool.not_eq_false, role, under, decide_eq_true_eq, bne_iff_ne] at h1
          exact h1.2 hpr.2
    have hm : at_ s.holders (at_ c.acts k).to ∈ s.holders := by
      rw [← at_nn]; exact at_mem (by have := hS.pre.hl; simp only [len] at hto; omega)
    have := hS.pre.holders _ hm
    exact ⟨_, hp _ this.1 this.2, by simp [sees]⟩
  · exact ⟨0, hp 0 (by omega) (by have := hV.pos; omega), by simp [sees, hpr]⟩
theorem kept_all {c : Contract} {l : List Int} {p : State × Int} (h : (goesOn c l p).2 = 0) (ps : List Int) (hp : ∀ q, 0 ≤ q → q < c.parties → q ∈ ps) : kept c ps l p = l := by
  unfold kept
  rw [List.filter_eq_self.2 (fun x hx => keep_all (trail_valid c l p x hx) ps hp), trail_fst c l p h]
theorem sub_filter {α : Type} {f g : α → Bool} (h : ∀ x, f x = true → g x = true) : ∀ l : List α, (l.filter f).Sublist (l.filter g)
  | [] => List.Sublist.refl _
  | x :: l => by
    rw [List.filter_cons, List.filter_cons]
    by_cases hf : f x = true
    · rw [if_pos hf, if_pos (h x hf)]; exact (sub_filter h l).cons_cons x
    · rw [if_neg hf]
      split
      · exact (sub_filter h l).cons x
      · exact sub_filter h l
theorem kept_mono {c : Contract} {l : List Int} {p : State × Int} {ps qs : List Int} (h : ∀ q ∈ ps, q ∈ qs) : (kept c ps l p).Sublist (kept c qs l p) := by
  unfold kept
  refine List.Sublist.map _ ?_
  refine sub_filter (fun x hx => ?_) _
  simp only [keepB, Bool.or_eq_true, List.any_eq_true] at hx ⊢
  rcases hx with hx | ⟨q, h1, h2⟩
  · exact .inl hx
  · exact .inr ⟨q, h q h1, h2⟩

/-! ### ProjectAll -/
def allP (n : Int) : List Int := (List.range n.toNat).map Int.ofNat
theorem mem_allP {n q : Int} : q ∈ allP n ↔ 0 ≤ q ∧ q < n := by
  simp only [allP, List.mem_map, List.mem_range]
  constructor
  · rintro ⟨i, h1, rfl⟩; simp only [Int.ofNat_eq_natCast]; omega
  · intro h; exact ⟨q.toNat, by omega, by simp only [Int.ofNat_eq_natCast]; omega⟩
theorem law_all {c : Contract} {l : List Int} (h : (joint c l (allP c.parties)).2 = 0) : (joint c l (allP c.parties)).1 = l ∧ (start c).2 = 0 ∧ (runL c l).2 = 0 := by
  obtain ⟨h1, _, _, _, h5, h6⟩ := joint_ok h
  exact ⟨by rw [h6]; exact kept_all (by rw [← runL_goes]; exact h5) _ fun q a b => mem_allP.2 ⟨a, b⟩, h1, h5⟩
theorem law_parts {c : Contract} {l ps : List Int} (h : (joint c l ps).2 = 0) {p : Int} (hp : p ∈ ps) (hl : l.length ≤ 4000) : (view c l p).2 = 0 ∧ wIn (view c l p).1 (joint c l ps).1 = true := by
  obtain ⟨h1, _, _, h4, h5, h6⟩ := joint_ok h
  have := joint_of (ps := [p]) h5 (by simp) (by simp) (fun q hq => by simp only [List.mem_singleton] at hq; subst hq; exact h4 q hp) hl
  unfold view
  rw [this, h6]
  exact ⟨rfl, wIn_of (kept_mono fun q hq => by simp only [List.mem_singleton] at hq; subst hq; exact hp)⟩
theorem law_within {c : Contract} {l ps : List Int} (h : (joint c l ps).2 = 0) : wIn (joint c l ps).1 l = true := by
  obtain ⟨_, _, _, _, h5, h6⟩ := joint_ok h
  rw [h6]; exact wIn_of (kept_sub (by rw [← runL_goes]; exact h5))
theorem law_err {c : Contract} {l ps : List Int} (h1 : (start c).2 = 0) (h2 : (runL c l).2 = 0) (hl : l.length ≤ 4000) (h : (joint c l ps).2 ≠ 0) : (joint c l ps).2 = 1 := by
  unfold joint at h ⊢
  rw [if_neg (by simp [h1])] at h ⊢
  split
  · rfl
  · rename_i h3
    have h6 : ¬ decide (4000 < len l) = true := by rw [decide_eq_true_eq]; simp only [len]; omega
    rw [if_neg h3, if_neg h6, if_pos (by simpa using h2)] at h; exact absurd rfl h

/-! ### ProjectBeginnings -/
theorem law_begin {c : Contract} {l : List Int} {p : Int} (h : (view c l p).2 = 0) (hl : l.length ≤ 4000) (n : Nat) :
    (view c (l.take n) p).2 = 0 ∧ (view c (l.take n) p).1.length ≤ (view c l p).1.length ∧ (view c (l.take n) p).1 = (view c l p).1.take (view c (l.take n) p).1.length := by
  unfold view at h ⊢
  obtain ⟨h1, h2, h3, h4, h5, h6⟩ := joint_ok h
  rw [joint_of (run_take h5 n) h2 h3 h4 (by simp; omega), h6]
  have hk := kept_app (c := c) (ps := [p]) (a := l.take n) (b := l.drop n) (p := start c) (by rw [← runL_goes]; exact run_take h5 n)
  rw [List.take_append_drop] at hk
  rw [hk]
  exact ⟨rfl, by simp, by simp⟩

/-! ### ProjectOwn -/
theorem seesX_of {c : Contract} {s : State} {p k : Int} (h : (step c s k).2 = 0) (hp : 0 ≤ p ∧ p < c.parties) (hk : k ≠ -1) : seesX c s p k = sees c s p k := by
  have hS := step_ok h
  have hv : sValid c s = true := sValid_iff.2 ⟨hS.pre, hS.idle⟩
  have hr := hS.rng
  unfold seesX
  rw [hv, decide_eq_true hp.1, decide_eq_true hp.2, decide_eq_true (show 0 ≤ k by omega), decide_eq_true hr.2]; rfl
theorem keep_one {c : Contract} {s : State} {p k : Int} (h : (step c s k).2 = 0) (hp : 0 ≤ p ∧ p < c.parties) : keepB c [p] (k, s) = (k == -1 || seesX c s p k) := by
  unfold keepB
  by_cases hk : k = -1
  · simp [hk]
  · rw [seesX_of h hp hk]; simp
theorem own_seen {c : Contract} {s : State} {p k : Int} (h : (step c s k).2 = 0) (hp : 0 ≤ p ∧ p < c.parties) (ho : k = -1 ∨ doerX c s k = p) : (k == -1 || seesX c s p k) = true := by
  by_cases hk : k = -1
  · simp [hk]
  · rw [seesX_of h hp hk]
    have hd : doerX c s k = p := ho.resolve_left hk
    rw [Bool.or_eq_true]; right
    unfold sees; rw [hd]; simp
structure Seen (c : Contract) (l : List Int) (p : Int) (n : Nat) : Prop where
  run : (runL c (l.take n)).2 = 0
  ok : (step c (runL c (l.take n)).1 (at_ l (n : Int))).2 = 0
  next : runL c (l.take (n + 1)) = step c (runL c (l.take n)).1 (at_ l (n : Int))
  keep : kept c [p] (l.take (n + 1)) (start c) = kept c [p] (l.take n) (start c) ++ if (at_ l (n : Int) == -1 || seesX c (runL c (l.take n)).1 p (at_ l (n : Int))) then [at_ l (n : Int)] else []
  own : (at_ l (n : Int) = -1 ∨ doerX c (runL c (l.take n)).1 (at_ l (n : Int)) = p) → (at_ l (n : Int) == -1 || seesX c (runL c (l.take n)).1 p (at_ l (n : Int))) = true
  place : (at_ l (n : Int) == -1 || seesX c (runL c (l.take n)).1 p (at_ l (n : Int))) = true → (kept c [p] (l.take n) (start c)).length < (view c l p).1.length ∧ at_ (view c l p).1 ((kept c [p] (l.take n) (start c)).length : Int) = at_ l (n : Int)
theorem law_seen {c : Contract} {l : List Int} {p : Int} (h : (view c l p).2 = 0) {n : Nat} (hn : n < l.length) : Seen c l p n := by
  unfold view at h
  obtain ⟨h1, h2, h3, h4, h5, h6⟩ := joint_ok h
  have hp := h4 p (by simp)
  have hr := run_take h5 n
  have hnx := run_next hn hr
  have hok : (step c (runL c (l.take n)).1 (at_ l (n : Int))).2 = 0 := by rw [← hnx]; exact run_take h5 (n + 1)
  have hk := kept_next (ps := [p]) hn hr hok
  rw [keep_one hok hp] at hk
  refine ⟨hr, hok, hnx, hk, own_seen hok hp, fun hs => ?_⟩
  rw [if_pos hs] at hk
  have hall := kept_app (c := c) (ps := [p]) (a := l.take (n + 1)) (b := l.drop (n + 1)) (p := start c) (by rw [← runL_goes]; exact run_take h5 (n + 1))
  rw [List.take_append_drop, hk] at hall
  have hv : (view c l p).1 = kept c [p] l (start c) := h6
  rw [hv, hall]
  have hlt : (kept c [p] (l.take n) (start c)).length < (kept c [p] (l.take n) (start c) ++ [at_ l (n : Int)] ++ kept c [p] (l.drop (n + 1)) (goesOn c (l.take (n + 1)) (start c))).length := by simp <;> omega
  refine ⟨hlt, ?_⟩
  rw [at_nat hlt]; simp
theorem law_ownEnd {c : Contract} {l : List Int} {p : Int} (h : (view c l p).2 = 0) : (runL c l).2 = 0 ∧ (kept c [p] l (start c)).length = (view c l p).1.length ∧ wIn (view c l p).1 l = true ∧ countI (view c l p).1 (-1) = countI l (-1) ∧ (start c).2 = 0 := by
  unfold view at h
  have hw := law_within h
  obtain ⟨h1, h2, h3, h4, h5, h6⟩ := joint_ok h
  have hv : (view c l p).1 = kept c [p] l (start c) := h6
  refine ⟨h5, by rw [hv], hw, ?_, h1⟩
  rw [countI_eq, countI_eq, hv]
  unfold kept
  have hf := trail_fst c l (start c) (by rw [← runL_goes]; exact h5)
  conv => rhs; rw [← hf]
  rw [List.filter_map, List.filter_map, List.length_map, List.length_map, List.filter_filter]
  congr 1
  refine List.filter_congr fun x _ => ?_
  simp only [Function.comp, keepB]
  cases x.1 == -1 <;> simp

/-! ### ProjectPrivate -/
theorem law_private {c : Contract} {s : State} {p k : Int} (hs : sValid c s = true) (hp : 0 ≤ p ∧ p < c.parties) (hk : 0 ≤ k ∧ k < len c.acts) :
    seesX c s p k = (if (at_ c.acts k).kind = 1 ∧ 0 ≤ (at_ c.acts k).to then (doerX c s k == p || at_ s.holders (at_ c.acts k).to == p) else true) := by
  have hC := (sValid_iff.1 hs).1
  have hV := valid2_ok hC.con
  have hka : k.toNat < c.acts.length := by simp only [len] at hk; omega
  have hact := hV.acts (at_ c.acts k) (by rw [← at_nn]; exact at_mem hka)
  have hto : (at_ c.acts k).kind = 1 → (at_ c.acts k).to ≠ -1 → 0 ≤ (at_ c.acts k).to := by
    intro h1 h2
    unfold act at hact
    split at hact
    · rename_i hm; simp [moves, h1] at hm
    · split at hact
      · cases hact
      · rename_i h3
        simp only [Bool.or_eq_true, not_or, Bool.and_eq_true, not_and, Bool.not_eq_true', Bool.not_eq_false, role, under, decide_eq_true_eq, bne_iff_ne] at h3
        exact (h3.2 h2).1
  unfold seesX
  rw [hs, decide_eq_true hp.1, decide_eq_true hp.2, decide_eq_true hk.1, decide_eq_true hk.2]
  simp only [Bool.true_and]
  unfold sees private_
  by_cases h1 : (at_ c.acts k).kind = 1
  · by_cases h2 : (at_ c.acts k).to = -1
    · rw [if_neg (by omega)]; simp [h2]
    · rw [if_pos ⟨h1, hto h1 h2⟩]
      have e2 : (((at_ c.acts k).to != -1) : Bool) = true := by simpa using h2
      rw [e2, h1]; simp [Bool.or_comm]
  · rw [if_neg (by simp [h1])]; simp [h1]
theorem law_notSeen {c : Contract} {s : State} {p k : Int} (h : sValid c s = false ∨ p < 0 ∨ c.parties ≤ p ∨ k < 0 ∨ len c.acts ≤ k) : seesX c s p k = false := by
  unfold seesX
  rcases h with h | h | h | h | h
  · simp [h]
  all_goals
    simp only [Bool.and_eq_false_iff, decide_eq_false_iff_not]
    omega

/-! ### ProjectHidden -/
theorem law_hidden {c : Contract} {l : List Int} {p k : Int} {n : Nat} (h : (view c l p).2 = 0) (hl : l.length ≤ 3000) (hk : 0 ≤ k)
    (h1 : (step c (runL c (l.take n)).1 k).2 = 0) (h2 : (step c (runL c (l.take n)).1 k).1 = (runL c (l.take n)).1) (h3 : seesX c (runL c (l.take n)).1 p k = false) :
    view c (l.take n ++ [k] ++ l.drop n) p = view c l p := by
  unfold view at h ⊢
  obtain ⟨g1, g2, g3, g4, g5, g6⟩ := joint_ok h
  have hr := run_take g5 n
  have hpq : ∀ p : State × Int, p.2 = 0 → p = (p.1, 0) := fun p hp => by cases p; simp_all
  have e1 := hpq _ hr
  have e2 := hpq _ h1
  have hgo : goesOn c (l.take n ++ [k]) (start c) = goesOn c (l.take n) (start c) := by
    rw [goesOn_app, ← runL_goes, goesOn_cons, goesOn_nil, if_pos (by simpa using hr), e2, h2, ← e1]
  have hgo1 : (goesOn c (l.take n ++ [k]) (start c)).2 = 0 := by rw [hgo, ← runL_goes]; exact hr
  have hrun : (runL c (l.take n ++ [k] ++ l.drop n)).2 = 0 := by
    rw [runL_goes, goesOn_app, hgo, ← goesOn_app, List.take_append_drop, ← runL_goes]; exact g5
  rw [joint_of hrun g2 g3 g4 (by simp; omega), joint_of g5 g2 g3 g4 (by omega)]
  have hr' : (goesOn c (l.take n) (start c)).2 = 0 := hr
  have hka := kept_app (c := c) (ps := [p]) (a := l.take n) (b := l.drop n) (p := start c) hr
  rw [List.take_append_drop] at hka
  have hkeep : keepB c [p] (k, (goesOn c (l.take n) (start c)).1) = false := by
    have := keep_one h1 (g4 p (by simp))
    rw [h3] at this
    exact this.trans (by simp only [Bool.or_false, beq_eq_false_iff_ne]; omega)
  rw [kept_app hgo1, kept_app hr', hgo, hka, kept_one hr' h1, hkeep]
  simp
/-! ### The chapter's example -/
def sampleP : Contract := ⟨3, [0, 1, 2], [], [⟨1, 0, 0, 1, -1, ⟨0, 1⟩⟩, ⟨1, 1, 0, -1, -1, ⟨0, 1⟩⟩], [], 5, []⟩
theorem sampleP_fits : Fits sampleP := ⟨by decide, by decide, by decide, by decide, by decide⟩
theorem headP_a : joint sampleP [0, -1, 1] [0] = ([0, -1, 1], 0) := by rfl
theorem headP_b : joint sampleP [0, -1, 1] [2] = ([-1, 1], 0) := by rfl
theorem headP_c : joint sampleP [0, -1, 1] [2, 1] = ([0, -1, 1], 0) := by rfl
theorem headP_h : joint sampleP [0, -1, 1] [3] = ([], 1) := by rfl
end Es
end
section
namespace Go.Proofs
open Go Go.Abs
set_option linter.unusedSimpArgs false
set_option linter.unusedVariables false
set_option maxRecDepth 10000
namespace Tryd
theorem private_spec (a : Es.ActT) : APure M 74 [actD a] (.v (.bool (Es.private_ a))) := by
  refine pure_of gpu func74 rfl results74 ntmps74 (by simp) ⟨pu_actD _, trivial⟩ ?_
  intro b
  simp only [go_sem, ↓reduceIte, decide_eq_true_eq, reduceCtorEq, Nat.reduceEqDiff, Nat.reduceLT, Nat.reduceLeDiff, Nat.reduceAdd, Nat.reduceSub, Nat.reduceMul, Nat.reduceGT, Int.reduceNeg, Int.reduceToNat, and_true, true_and, and_false, false_and, List.getElem?_toArray, List.getElem?_cons_zero, List.getElem?_cons_succ, List.cons_append, List.nil_append, if_true, if_false, Option.getD_some, Option.isSome_some, Bool.false_eq_true, List.append_nil, List.drop_zero, List.drop_succ_cons, Bool.cond_false_right, Bool.cond_false_left, Bool.cond_true_left, Bool.cond_true_right, ite_self, Bool.not_true, Bool.not_false, cond_true, cond_false, List.size_toArray, implies_true, true_implies, false_implies, List.all_cons, List.all_nil, List.nodup_cons, List.nodup_nil, List.mem_cons, List.not_mem_nil, or_false, false_or, not_false_eq_true, decide_true, Bool.and_true, Bool.and_self]
  all_goals first | (simp [Es.private_, *]; done) | (simp [Es.private_, *]; omega) | (simp_all [Es.private_]; done) | (simp_all [Es.private_]; omega)
theorem joint1_spec (c : Es.Contract) (p : Int) : APure M 39 [.v (.int .i64 p), .rp 7 (conC c) 0] (.v (.bool (decide (p < 0) || decide (c.parties ≤ p)))) := by
  refine pure_of gpu func39 rfl results39 ntmps39 (by simp) ⟨.v _, pu_rp (pu_conC c), trivial⟩ ?_
  intro b
  simp only [go_sem, ↓reduceIte, decide_eq_true_eq, reduceCtorEq, Nat.reduceEqDiff, Nat.reduceLT, Nat.reduceLeDiff, Nat.reduceAdd, Nat.reduceSub, Nat.reduceMul, Nat.reduceGT, Int.reduceNeg, Int.reduceToNat, and_true, true_and, and_false, false_and, List.getElem?_toArray, List.getElem?_cons_zero, List.getElem?_cons_succ, List.cons_append, List.nil_append, if_true, if_false, Option.getD_some, Option.isSome_some, Bool.false_eq_true, List.append_nil, List.drop_zero, List.drop_succ_cons, Bool.cond_false_right, Bool.cond_false_left, Bool.cond_true_left, Bool.cond_true_right, ite_self, Bool.not_true, Bool.not_false, cond_true, cond_false, List.size_toArray, implies_true, true_implies, false_implies, List.all_cons, List.all_nil, List.nodup_cons, List.nodup_nil, List.mem_cons, List.not_mem_nil, or_false, false_or, not_false_eq_true, decide_true, Bool.and_true, Bool.and_self]
  repeat' (first | (with_reducible refine And.intro ?_ ?_) | ((with_reducible refine ite_cases ?_ ?_) <;> intro _))
  all_goals first
    | (simp_all; done)
    | (simp_all; omega)
theorem psees_spec (c : Es.Contract) (s : Es.State) (p k : Int) (hf : Es.Fits c) (hs : Es.SFits s) (hk : 0 ≤ k ∧ k < Es.len c.acts) (hp : Es.private_ (Es.at_ c.acts k) = true → 0 ≤ (Es.at_ c.acts k).to ∧ (Es.at_ c.acts k).to < Es.len s.holders) :
    APure M 43 [conD c, staD s, .v (.int .i64 p), .v (.int .i64 k)] (.v (.bool (Es.sees c s p k))) := by
  refine pure_of gpu func43 rfl results43 ntmps43 (by simp) ⟨pu_conD _, pu_staD _, .v _, .v _, trivial⟩ ?_
  intro b
  simp only [go_sem, ↓reduceIte, decide_eq_true_eq, reduceCtorEq, Nat.reduceEqDiff, Nat.reduceLT, Nat.reduceLeDiff, Nat.reduceAdd, Nat.reduceSub, Nat.reduceMul, Nat.reduceGT, Int.reduceNeg, Int.reduceToNat, and_true, true_and, and_false, false_and, List.getElem?_toArray, List.getElem?_cons_zero, List.getElem?_cons_succ, List.cons_append, List.nil_append, if_true, if_false, Option.getD_some, Option.isSome_some, Bool.false_eq_true, List.append_nil, List.drop_zero, List.drop_succ_cons, Bool.cond_false_right, Bool.cond_false_left, Bool.cond_true_left, Bool.cond_true_right, ite_self, Bool.not_true, Bool.not_false, cond_true, cond_false, List.size_toArray, implies_true, true_implies, false_implies, List.all_cons, List.all_nil, List.nodup_cons, List.nodup_nil, List.mem_cons, List.not_mem_nil, or_false, false_or, not_false_eq_true, decide_true, Bool.and_true, Bool.and_self]
  refine ⟨hk, ?_⟩
  repeat' (first | ((with_reducible refine call_at M_P M_G (private_spec _) ?_); simp only [go_sem, ↓reduceIte, decide_eq_true_eq, reduceCtorEq, Nat.reduceEqDiff, Nat.reduceLT, Nat.reduceLeDiff, Nat.reduceAdd, Nat.reduceSub, Nat.reduceMul, Nat.reduceGT, Int.reduceNeg, Int.reduceToNat, and_true, true_and, and_false, false_and, List.getElem?_toArray, List.getElem?_cons_zero, List.getElem?_cons_succ, List.cons_append, List.nil_append, if_true, if_false, Option.getD_some, Option.isSome_some, Bool.false_eq_true, List.append_nil, List.drop_zero, List.drop_succ_cons, Bool.cond_false_right, Bool.cond_false_left, Bool.cond_true_left, Bool.cond_true_right, ite_self, Bool.not_true, Bool.not_false, cond_true, cond_false, List.size_toArray, implies_true, true_implies, false_implies, List.all_cons, List.all_nil, List.nodup_cons, List.nodup_nil, List.mem_cons, List.not_mem_nil, or_false, false_or, not_false_eq_true, decide_true, Bool.and_true, Bool.and_self]) | ((with_reducible refine call_at M_P M_G (doerX_spec c s k hf hs) ?_); simp only [go_sem, ↓reduceIte, decide_eq_true_eq, reduceCtorEq, Nat.reduceEqDiff, Nat.reduceLT, Nat.reduceLeDiff, Nat.reduceAdd, Nat.reduceSub, Nat.reduceMul, Nat.reduceGT, Int.reduceNeg, Int.reduceToNat, and_true, true_and, and_false, false_and, List.getElem?_toArray, List.getElem?_cons_zero, List.getElem?_cons_succ, List.cons_append, List.nil_append, if_true, if_false, Option.getD_some, Option.isSome_some, Bool.false_eq_true, List.append_nil, List.drop_zero, List.drop_succ_cons, Bool.cond_false_right, Bool.cond_false_left, Bool.cond_true_left, Bool.cond_true_right, ite_self, Bool.not_true, Bool.not_false, cond_true, cond_false, List.size_toArray, implies_true, true_implies, false_implies, List.all_cons, List.all_nil, List.nodup_cons, List.nodup_nil, List.mem_cons, List.not_mem_nil, or_false, false_or, not_false_eq_true, decide_true, Bool.and_true, Bool.and_self]) | (with_reducible refine And.intro ?_ ?_) | ((with_reducible refine ite_cases ?_ ?_) <;> intro _))
  all_goals first
    | (exact (hp (by simp_all)).1)
    | (exact (hp (by simp_all)).2)
    | (refine congrArg Value.bool ?_; simp_all [Es.sees]; done)
theorem sees_spec (c : Es.Contract) (s : Es.State) (p k : Int) (hf : Es.Fits c) (hs : Es.SFits s) : APure M 22 [conD c, staD s, .v (.int .i64 p), .v (.int .i64 k)] (.v (.bool (Es.seesX c s p k))) := by
  refine pure_of gpu func22 rfl results22 ntmps22 (by simp) ⟨pu_conD _, pu_staD _, .v _, .v _, trivial⟩ ?_
  intro b
  simp only [go_sem, ↓reduceIte, decide_eq_true_eq, reduceCtorEq, Nat.reduceEqDiff, Nat.reduceLT, Nat.reduceLeDiff, Nat.reduceAdd, Nat.reduceSub, Nat.reduceMul, Nat.reduceGT, Int.reduceNeg, Int.reduceToNat, and_true, true_and, and_false, false_and, List.getElem?_toArray, List.getElem?_cons_zero, List.getElem?_cons_succ, List.cons_append, List.nil_append, if_true, if_false, Option.getD_some, Option.isSome_some, Bool.false_eq_true, List.append_nil, List.drop_zero, List.drop_succ_cons, Bool.cond_false_right, Bool.cond_false_left, Bool.cond_true_left, Bool.cond_true_right, ite_self, Bool.not_true, Bool.not_false, cond_true, cond_false, List.size_toArray, implies_true, true_implies, false_implies, List.all_cons, List.all_nil, List.nodup_cons, List.nodup_nil, List.mem_cons, List.not_mem_nil, or_false, false_or, not_false_eq_true, decide_true, Bool.and_true, Bool.and_self]
  repeat' (first | ((with_reducible refine call_at M_P M_G (sValid_spec c s hf hs) ?_); simp only [go_sem, ↓reduceIte, decide_eq_true_eq, reduceCtorEq, Nat.reduceEqDiff, Nat.reduceLT, Nat.reduceLeDiff, Nat.reduceAdd, Nat.reduceSub, Nat.reduceMul, Nat.reduceGT, Int.reduceNeg, Int.reduceToNat, and_true, true_and, and_false, false_and, List.getElem?_toArray, List.getElem?_cons_zero, List.getElem?_cons_succ, List.cons_append, List.nil_append, if_true, if_false, Option.getD_some, Option.isSome_some, Bool.false_eq_true, List.append_nil, List.drop_zero, List.drop_succ_cons, Bool.cond_false_right, Bool.cond_false_left, Bool.cond_true_left, Bool.cond_true_right, ite_self, Bool.not_true, Bool.not_false, cond_true, cond_false, List.size_toArray, implies_true, true_implies, false_implies, List.all_cons, List.all_nil, List.nodup_cons, List.nodup_nil, List.mem_cons, List.not_mem_nil, or_false, false_or, not_false_eq_true, decide_true, Bool.and_true, Bool.and_self]) | (with_reducible refine And.intro ?_ ?_) | ((with_reducible refine ite_cases ?_ ?_) <;> intro _))
  all_goals first
    | (refine congrArg Value.bool ?_; simp_all [Es.seesX]; done)
    | (refine congrArg Value.bool ?_; simp_all [Es.seesX]; omega)
    | skip
  all_goals
    have hv : Es.sValid c s = true := by simp_all
    have hk : 0 ≤ k ∧ k < Es.len c.acts := by simp_all
    refine call_at M_P M_G (psees_spec c s p k hf hs hk (Es.priv_to (Es.sValid_iff.1 hv).1 hk)) ?_
    simp only [go_sem, ↓reduceIte, decide_eq_true_eq, reduceCtorEq, Nat.reduceEqDiff, Nat.reduceLT, Nat.reduceLeDiff, Nat.reduceAdd, Nat.reduceSub, Nat.reduceMul, Nat.reduceGT, Int.reduceNeg, Int.reduceToNat, and_true, true_and, and_false, false_and, List.getElem?_toArray, List.getElem?_cons_zero, List.getElem?_cons_succ, List.cons_append, List.nil_append, if_true, if_false, Option.getD_some, Option.isSome_some, Bool.false_eq_true, List.append_nil, List.drop_zero, List.drop_succ_cons, Bool.cond_false_right, Bool.cond_false_left, Bool.cond_true_left, Bool.cond_true_right, ite_self, Bool.not_true, Bool.not_false, cond_true, cond_false, List.size_toArray, implies_true, true_implies, false_implies, List.all_cons, List.all_nil, List.nodup_cons, List.nodup_nil, List.mem_cons, List.not_mem_nil, or_false, false_or, not_false_eq_true, decide_true, Bool.and_true, Bool.and_self]
    refine congrArg Value.bool ?_
    simp_all [Es.seesX]
theorem pu_int1 (k : Int) : Pu (.rp 1 (intC k) 0) := pu_rp (pu_intC k)
theorem joint21_spec (c : Es.Contract) (s : Es.State) (p k : Int) (hf : Es.Fits c) (hs : Es.SFits s) (hk : 0 ≤ k ∧ k < Es.len c.acts) (hv : Es.sValid c s = true) :
    APure M 42 [.v (.int .i64 p), .rp 7 (conC c) 0, .rp 4 (staC s) 0, .rp 1 (intC k) 0] (.v (.bool (Es.sees c s p k))) := by
  refine pure_of gpu func42 rfl results42 ntmps42 (by simp) ⟨.v _, pu_rp (pu_conC c), pu_rp (pu_staC s), pu_int1 k, trivial⟩ ?_
  intro b
  simp only [go_sem, ↓reduceIte, decide_eq_true_eq, reduceCtorEq, Nat.reduceEqDiff, Nat.reduceLT, Nat.reduceLeDiff, Nat.reduceAdd, Nat.reduceSub, Nat.reduceMul, Nat.reduceGT, Int.reduceNeg, Int.reduceToNat, and_true, true_and, and_false, false_and, List.getElem?_toArray, List.getElem?_cons_zero, List.getElem?_cons_succ, List.cons_append, List.nil_append, if_true, if_false, Option.getD_some, Option.isSome_some, Bool.false_eq_true, List.append_nil, List.drop_zero, List.drop_succ_cons, Bool.cond_false_right, Bool.cond_false_left, Bool.cond_true_left, Bool.cond_true_right, ite_self, Bool.not_true, Bool.not_false, cond_true, cond_false, List.size_toArray, implies_true, true_implies, false_implies, List.all_cons, List.all_nil, List.nodup_cons, List.nodup_nil, List.mem_cons, List.not_mem_nil, or_false, false_or, not_false_eq_true, decide_true, Bool.and_true, Bool.and_self]
  repeat' (first | ((with_reducible refine call_at M_P M_G (psees_spec c s p k hf hs hk (Es.priv_to (Es.sValid_iff.1 hv).1 hk)) ?_); simp only [go_sem, ↓reduceIte, decide_eq_true_eq, reduceCtorEq, Nat.reduceEqDiff, Nat.reduceLT, Nat.reduceLeDiff, Nat.reduceAdd, Nat.reduceSub, Nat.reduceMul, Nat.reduceGT, Int.reduceNeg, Int.reduceToNat, and_true, true_and, and_false, false_and, List.getElem?_toArray, List.getElem?_cons_zero, List.getElem?_cons_succ, List.cons_append, List.nil_append, if_true, if_false, Option.getD_some, Option.isSome_some, Bool.false_eq_true, List.append_nil, List.drop_zero, List.drop_succ_cons, Bool.cond_false_right, Bool.cond_false_left, Bool.cond_true_left, Bool.cond_true_right, ite_self, Bool.not_true, Bool.not_false, cond_true, cond_false, List.size_toArray, implies_true, true_implies, false_implies, List.all_cons, List.all_nil, List.nodup_cons, List.nodup_nil, List.mem_cons, List.not_mem_nil, or_false, false_or, not_false_eq_true, decide_true, Bool.and_true, Bool.and_self]) | (with_reducible refine And.intro ?_ ?_) | ((with_reducible refine ite_cases ?_ ?_) <;> intro _))
theorem pu_ints1 (l : List Int) : Pu (.rp 1 (fun _ => slD 1 intC l) 0) := pu_rp (fun _ => pu_slD pu_intC _)
theorem joint2_spec (c : Es.Contract) (s : Es.State) (ps : List Int) (k : Int) (hf : Es.Fits c) (hl : ps.length ≤ 1000000) (h : (Es.step c s k).2 = 0) (hs : Es.SFits s) :
    APure M 41 [.v (.int .i64 k), staD s, .rp 1 (fun _ => slD 1 intC ps) 0, .rp 7 (conC c) 0] (.v (.bool (Es.keepB c ps (k, s)))) := by
  have hS := Es.step_ok h
  have hv : Es.sValid c s = true := Es.sValid_iff.2 ⟨hS.pre, hS.idle⟩
  have hcall : callable prog 42 = true := by simp only [go_sem]
  refine pure_of gpu func41 rfl results41 ntmps41 (by simp) ⟨.v _, pu_staD _, pu_ints1 ps, pu_rp (pu_conC c), trivial⟩ ?_
  intro b
  simp only [go_sem, ↓reduceIte, decide_eq_true_eq, reduceCtorEq, Nat.reduceEqDiff, Nat.reduceLT, Nat.reduceLeDiff, Nat.reduceAdd, Nat.reduceSub, Nat.reduceMul, Nat.reduceGT, Int.reduceNeg, Int.reduceToNat, and_true, true_and, and_false, false_and, List.getElem?_toArray, List.getElem?_cons_zero, List.getElem?_cons_succ, List.cons_append, List.nil_append, if_true, if_false, Option.getD_some, Option.isSome_some, Bool.false_eq_true, List.append_nil, List.drop_zero, List.drop_succ_cons, Bool.cond_false_right, Bool.cond_false_left, Bool.cond_true_left, Bool.cond_true_right, ite_self, Bool.not_true, Bool.not_false, cond_true, cond_false, List.size_toArray, implies_true, true_implies, false_implies, List.all_cons, List.all_nil, List.nodup_cons, List.nodup_nil, List.mem_cons, List.not_mem_nil, or_false, false_or, not_false_eq_true, decide_true, Bool.and_true, Bool.and_self]
  refine ite_cases (fun hk1 => ?_) (fun hk1 => ?_)
  · have hk : 0 ≤ k ∧ k < Es.len c.acts := by have := hS.rng; simp only [beq_eq_false_iff_ne] at hk1; omega
    have hcon := containsI_spec 42 [.rp 7 (conC c) 0, .rp 4 (staC s) 0, .rp 1 (intC k) 0] hcall ⟨pu_rp (pu_conC c), pu_rp (pu_staC s), pu_int1 k, trivial⟩ (fun p => Es.sees c s p k) ps (by omega) (fun x _ => joint21_spec c s x k hf hs hk hv)
    repeat' (first | ((with_reducible apply lend_at M_P M_G (hcon) gpu (Flat.v _)); (exact ⟨(pu_slD pu_intC _).fz, Fz_fn ⟨(pu_rp (pu_conC c)).fz, fz_sta rfl (by decide), fz_box rfl (by decide) (fun j hj => by obtain rfl : j = 0 := (by omega); exact ⟨rfl, .v _⟩), trivial⟩, trivial⟩); simp only [go_sem, ↓reduceIte, decide_eq_true_eq, reduceCtorEq, Nat.reduceEqDiff, Nat.reduceLT, Nat.reduceLeDiff, Nat.reduceAdd, Nat.reduceSub, Nat.reduceMul, Nat.reduceGT, Int.reduceNeg, Int.reduceToNat, and_true, true_and, and_false, false_and, List.getElem?_toArray, List.getElem?_cons_zero, List.getElem?_cons_succ, List.cons_append, List.nil_append, if_true, if_false, Option.getD_some, Option.isSome_some, Bool.false_eq_true, List.append_nil, List.drop_zero, List.drop_succ_cons, Bool.cond_false_right, Bool.cond_false_left, Bool.cond_true_left, Bool.cond_true_right, ite_self, Bool.not_true, Bool.not_false, cond_true, cond_false, List.size_toArray, implies_true, true_implies, false_implies, List.all_cons, List.all_nil, List.nodup_cons, List.nodup_nil, List.mem_cons, List.not_mem_nil, or_false, false_or, not_false_eq_true, decide_true, Bool.and_true, Bool.and_self]) | (with_reducible refine And.intro ?_ ?_) | ((with_reducible refine ite_cases ?_ ?_) <;> intro _))
    refine congrArg Value.bool ?_
    simp_all [Es.keepB]
  · refine congrArg Value.bool ?_
    simp_all [Es.keepB]
end Tryd
end Go.Proofs
end
section
/-
  An abstract machine over the model, part 16: what lies beyond a block's rows is nobody's concern.
-/
namespace Go.Abs
open Go
/-- The store may be told otherwise, where every configuration that fits the one fits the other. -/
theorem AWp.sim {M : Ctx} {c : Code} {Q Q' : Exit → Env → S → Prop} {e : Env} {s : S} (h : AWp M c Q e s) (hq : ∀ x e s, Q x e s → ∃ s', (∀ cf : Cfg, cf.Ok s → cf.Ok s') ∧ Q' x e s') : AWp M c Q' e s :=
  fun cf a n hE hok => wpIn_mono (h cf a n hE hok) fun x _ _ ⟨cf', e', s', h1, h2, h3, h4, h5⟩ =>
    let ⟨s'', g1, g2⟩ := hq x e' s' h5
    ⟨cf', e', s'', h1, h2, h3, g1 cf' h4, g2⟩
theorem ACall.sim {M : Ctx} {f : FuncId} {args : List D} {s : S} {K K' : D → S → Prop} (h : ACall M f args s K) (hk : ∀ d s, K d s → ∃ s', (∀ cf : Cfg, cf.Ok s → cf.Ok s') ∧ K' d s') : ACall M f args s K' :=
  fun c vals h1 h2 h3 h4 => (h c vals h1 h2 h3 h4).mono fun _ _ ⟨c', v, d, s', g1, g2, g3, g4, g5, g6⟩ =>
    let ⟨s'', k1, k2⟩ := hk d s' g6
    ⟨c', v, d, s'', g1, g2, g3, k1 c' g4, g5, k2⟩
theorem cells_sim {s : S} {f i k n : Nat} {ty : TypeId} {cell cell' : Nat → Nat → D} (hB : s.o f i = some (.blk k n ty cell)) (hc : ∀ r c, r < n → c < k → cell r c = cell' r c) (cf : Cfg) (h : cf.Ok s) : cf.Ok (s.put f i (.blk k n ty cell')) where
  kb := h.kb
  βb := h.βb
  fresh := h.fresh
  obj f1 i1 B1 hB1 := by
    change (if f1 = f ∧ i1 = i then some (SObj.blk k n ty cell') else s.o f1 i1) = some B1 at hB1
    split at hB1
    · rename_i hh
      obtain ⟨rfl, rfl⟩ := hh
      cases hB1
      obtain ⟨h1, h2⟩ := h.obj _ _ _ hB
      refine ⟨h1, ?_⟩
      rcases h2 with ⟨b, cp, g1, g2, g3, arr, g4, g5, g6⟩ | ⟨g1, g2⟩
      · exact .inl ⟨b, cp, g1, g2, g3, arr, g4, g5, fun r c hr hc' => by rw [← hc r c hr hc']; exact g6 r c hr hc'⟩
      · exact .inr ⟨g1, g2⟩
    · exact h.obj f1 i1 B1 hB1
  inj f1 i1 f2 i2 B1 B2 b cp1 cp2 h1 h2 h3 h4 := by
    have hl : ∀ f' i' B0, St.set s.o f i (some (.blk k n ty cell')) f' i' = some B0 → ∃ B1, s.o f' i' = some B1 := by
      intro f' i' B0 hh
      change (if f' = f ∧ i' = i then some (SObj.blk k n ty cell') else s.o f' i') = some B0 at hh
      split at hh
      · rename_i e; obtain ⟨rfl, rfl⟩ := e; exact ⟨_, hB⟩
      · exact ⟨B0, hh⟩
    obtain ⟨B3, h5⟩ := hl _ _ _ h1
    obtain ⟨B4, h6⟩ := hl _ _ _ h2
    exact h.inj _ _ _ _ _ _ _ _ _ h5 h6 h3 h4
/-- Arguments of which one owned slice is given away for good. -/
def FrL (f k n : Nat) (cell : Nat → Nat → D) : List D → List D → Prop
  | [], [] => True
  | d :: ds, d' :: ds' => (d' = d ∨ (d = .ms f 0 k 0 n ∧ d' = .sl k n cell)) ∧ FrL f k n cell ds ds'
  | _, _ => False
theorem FrL.len {f k n : Nat} {cell : Nat → Nat → D} : ∀ {ds ds' : List D}, FrL f k n cell ds ds' → ds.length = ds'.length
  | [], [], _ => rfl
  | d :: ds, d' :: ds', h => by simp [FrL.len h.2]
theorem FrL.get {f k n : Nat} {cell : Nat → Nat → D} : ∀ {ds ds' : List D}, FrL f k n cell ds ds' → ∀ (i : Nat) (d d' : D), ds[i]? = some d → ds'[i]? = some d' → d' = d ∨ (d = .ms f 0 k 0 n ∧ d' = .sl k n cell)
  | d :: ds, d' :: ds', h, 0, x, y, hx, hy => by simp at hx hy; subst hx; subst hy; exact h.1
  | d :: ds, d' :: ds', h, i + 1, x, y, hx, hy => FrL.get h.2 i x y (by simpa using hx) (by simpa using hy)
theorem acall_freeze {M : Ctx} {g : FuncId} {args args' : List D} {s : S} {K : D → S → Prop} {f k n : Nat} {ty : TypeId} {cell cell' : Nat → Nat → D} (hB : s.o f 0 = some (.blk k n ty cell)) (hc : ∀ r c, r < n → c < k → cell r c = cell' r c)
    (ha : FrL f k n cell' args args') (h : ACall M g args' (s.kill f 0) K) : ACall M g args s K := by
  intro c vals hok hglob hlen hrep
  obtain ⟨hlt, ho⟩ := hok.obj f 0 _ hB
  have hget : ∀ (i : Nat) (d' : D), args'[i]? = some d' → ∃ d, args[i]? = some d ∧ (d' = d ∨ (d = .ms f 0 k 0 n ∧ d' = .sl k n cell')) := fun i d' hd' => by
    have hi : i < args.length := by
      rw [ha.len]
      rcases Nat.lt_or_ge i args'.length with h | h
      · exact h
      · rw [List.getElem?_eq_none h] at hd'; cases hd'
    exact ⟨_, List.getElem?_eq_getElem hi, ha.get i _ d' (List.getElem?_eq_getElem hi) hd'⟩
  have hkill : ∀ f' i' B', (s.kill f 0).o f' i' = some B' → ¬ (f' = f ∧ i' = 0) ∧ s.o f' i' = some B' := fun f' i' B' hh => by
    change (if f' = f ∧ i' = 0 then none else s.o f' i') = some B' at hh
    split at hh
    · cases hh
    · rename_i hne; exact ⟨hne, hh⟩
  rcases ho with ⟨b, cp, hβ, hnk, hn, arr, harr, hsz, hcell⟩ | ⟨hβ, he⟩
  · obtain ⟨c1, hc1⟩ : ∃ c1 : Cfg, c1 = ⟨fun x => c.K x ∨ x = b, c.β, c.W⟩ := ⟨_, rfl⟩
    have hx : Ext c c1 := by
      rw [hc1]
      exact ⟨fun _ h => .inl h, fun _ _ _ h => h, Nat.le_refl _, rfl, rfl, rfl, fun _ _ => rfl, fun _ _ _ => rfl, fun x hx => by
        rcases hx with hx | rfl
        · exact .inl hx
        · exact .inr (.inl ⟨f, 0, cp, hβ⟩), fun f i x cp h => .inl ⟨f, i, cp, h⟩⟩
    have hok1 : c1.Ok (s.kill f 0) := by
      rw [hc1]
      refine ⟨fun x hx => ?_, hok.βb, hok.fresh, fun f1 i1 B1 hB1 => ?_, fun f1 i1 f2 i2 B1 B2 b' cp1 cp2 h1 h2 h3 h4 => hok.inj _ _ _ _ _ _ _ _ _ (hkill _ _ _ h1).2 (hkill _ _ _ h2).2 h3 h4⟩
      · rcases hx with hx | rfl
        · exact hok.kb x hx
        · exact hok.βb f 0 _ cp hβ
      · obtain ⟨hne, hB1'⟩ := hkill _ _ _ hB1
        obtain ⟨k1, k2⟩ := hok.obj f1 i1 B1 hB1'
        refine ⟨k1, ?_⟩
        rcases k2 with ⟨b1, cp1, g1, g2, g3⟩ | k2
        · refine .inl ⟨b1, cp1, g1, fun hk => ?_, g3.mono (fun _ h => .inl h) (fun _ _ _ h => h) (fun _ _ => rfl) rfl⟩
          rcases hk with hk | rfl
          · exact g2 hk
          · exact hne (hok.inj _ _ _ _ _ _ _ _ _ hB1' hB g1 hβ)
        · exact .inr k2
    have hrep1 : ∀ (i : Nat) (d' : D), args'[i]? = some d' → c1.Rep d' (vals.getD i undef) := fun i d' hd' => by
      obtain ⟨d, hd, hdd⟩ := hget i d' hd'
      have hr := hrep i d hd
      rcases hdd with rfl | ⟨rfl, rfl⟩
      · exact hx.rep hr
      · generalize vals.getD i undef = v at hr
        cases hr with
        | ms _ _ _ _ _ b0 cp0 cap hβ0 hcp1 hcp2 =>
          rw [hβ] at hβ0; cases hβ0
          refine .sl k n cell' b (0 * k) cap (fun r j => arr.getD (r * k + j) undef) (by rw [hc1]; exact .inr rfl) hcp1 (fun r j hr hj => ?_) (fun r j hr hj => (hcell r j hr hj).1) (fun r j hr hj => ?_)
          · have := arr_cell (w := c.W) harr (o := r * k + j) (by rw [hsz]; exact idx_lt (by omega) hj)
            rw [hc1, Nat.zero_mul, Nat.zero_add]; exact this
          · rw [← hc r j hr hj]; exact hx.rep (hcell r j hr hj).2
        | msnil => exact .slnil k cell'
    refine (h c1 vals hok1 (hglob.ext hx) (by rw [hlen, ha.len]) hrep1 : Calls M.P g vals.toArray c1.W _).mono ?_ |> fun hh => (by rw [hc1] at hh; exact hh)
    rintro x W' ⟨c', v, d, s', g1, g2, g3, g4, g5, g6⟩
    exact ⟨c', v, d, s', g1, g2, hx.trans g3, g4, g5, g6⟩
  · have hn0 : n = 0 := he
    subst hn0
    have hok1 : c.Ok (s.kill f 0) := kill_ok hok f 0
    refine h c vals hok1 hglob (by rw [hlen, ha.len]) fun i d' hd' => ?_
    obtain ⟨d, hd, hdd⟩ := hget i d' hd'
    have hr := hrep i d hd
    rcases hdd with rfl | ⟨rfl, rfl⟩
    · exact hr
    · generalize vals.getD i undef = v at hr
      cases hr with
      | ms _ _ _ _ _ b0 cp0 cap hβ0 => rw [hβ] at hβ0; cases hβ0
      | msnil => exact .slnil k cell'
/-- Arguments that stand for whatever they stood for. -/
def WkL : List D → List D → Prop
  | [], [] => True
  | d :: ds, d' :: ds' => (∀ (c : Cfg) (v : Value), c.Rep d v → c.Rep d' v) ∧ WkL ds ds'
  | _, _ => False
theorem WkL.len : ∀ {ds ds' : List D}, WkL ds ds' → ds.length = ds'.length
  | [], [], _ => rfl
  | d :: ds, d' :: ds', h => by simp [WkL.len h.2]
theorem WkL.get : ∀ {ds ds' : List D}, WkL ds ds' → ∀ (i : Nat) (d d' : D), ds[i]? = some d → ds'[i]? = some d' → ∀ (c : Cfg) (v : Value), c.Rep d v → c.Rep d' v
  | d :: ds, d' :: ds', h, 0, x, y, hx, hy => by simp at hx hy; subst hx; subst hy; exact h.1
  | d :: ds, d' :: ds', h, i + 1, x, y, hx, hy => WkL.get h.2 i x y (by simpa using hx) (by simpa using hy)
theorem acall_weak {M : Ctx} {g : FuncId} {args args' : List D} {s : S} {K : D → S → Prop} (ha : WkL args args') (h : ACall M g args' s K) : ACall M g args s K := fun c vals hok hglob hlen hrep =>
  h c vals hok hglob (by rw [hlen, ha.len]) fun i d' hd' => by
    have hi : i < args.length := by
      rw [ha.len]
      rcases Nat.lt_or_ge i args'.length with h | h
      · exact h
      · rw [List.getElem?_eq_none h] at hd'; cases hd'
    exact ha.get i _ d' (List.getElem?_eq_getElem hi) hd' c _ (hrep i _ (List.getElem?_eq_getElem hi))
theorem wk_nil (k : Nat) (row : Nat → Nat → D) (c : Cfg) (v : Value) (h : c.Rep (.v (.slice none 0 0)) v) : c.Rep (.sl k 0 row) v := by cases h; exact .slnil k row
end Go.Abs
end
section
namespace Go.Proofs
open Go Go.Abs
set_option linter.unusedSimpArgs false
set_option linter.unusedVariables false
set_option maxRecDepth 10000
namespace Tryd
theorem cloneI_spec2 (X : D → Value → Prop) (N : Nat) (r : Option Nat) (b : Nat) (l : List Int) (hl : l.length ≤ 1000000000) (hne : l.length ≠ 0) (o : St) (nx : Nat) (K : D → S → Prop)
    (hk : ∀ B ty, K (.ms (nx + 1) 0 1 0 l.length) ⟨St.set (St.set o nx 0 B) (nx + 1) 0 (some (.blk 1 l.length ty (rowsOf intC l))), nx + 1 + 1⟩) :
    ACall { P := prog, G := gl, X := X, N := N, r := r, b := b } 45 [slD 1 intC l] ⟨o, nx⟩ K := by
  refine acall_ofA (M := { P := prog, G := gl, X := X, N := N, r := r, b := b }) func45 rfl results45 ntmps45 (by simp) fun b => ?_
  simp only [go_sem, ↓reduceIte, decide_eq_true_eq, reduceCtorEq, Nat.reduceEqDiff, Nat.reduceLT, Nat.reduceLeDiff, Nat.reduceAdd, Nat.reduceSub, Nat.reduceMul, Nat.reduceGT, Int.reduceNeg, Int.reduceToNat, and_true, true_and, and_false, false_and, List.getElem?_toArray, List.getElem?_cons_zero, List.getElem?_cons_succ, List.cons_append, List.nil_append, if_true, if_false, Option.getD_some, Option.isSome_some, Bool.false_eq_true, List.append_nil, List.drop_zero, List.drop_succ_cons, Bool.cond_false_right, Bool.cond_false_left, Bool.cond_true_left, Bool.cond_true_right, ite_self, Bool.not_true, Bool.not_false, cond_true, cond_false, List.size_toArray, implies_true, true_implies, false_implies, List.all_cons, List.all_nil, List.nodup_cons, List.nodup_nil, List.mem_cons, List.not_mem_nil, or_false, false_or, not_false_eq_true, decide_true, Bool.and_true, Bool.and_self]
  intro q hq
  refine ite_cases (fun h => absurd (hq h) hne) (fun h => ?_)
  refine ⟨⟨by omega, by omega⟩, ?_⟩
  have hc : ∀ cell, appC cell 0 (rowsOf intC l) = rowsOf intC l := fun cell => by funext r c; simp [appC]
  rw [hc, Nat.zero_add]
  exact hk _ _
/-- The marks, when the first k have been laid. -/
def sm (c : Es.Contract) (k : Nat) : List Es.Mark := (List.range c.clauses.length).map fun (i : Nat) => if i < k then Es.mark0 (Es.at_ c.clauses (i : Int)) else ⟨0, 0, 0, 0, false⟩
theorem sm_length (c : Es.Contract) (k : Nat) : (sm c k).length = c.clauses.length := by simp [sm]
theorem sm_zero (c : Es.Contract) : sm c 0 = List.replicate c.clauses.length ⟨0, 0, 0, 0, false⟩ := by
  apply List.ext_getElem (by simp [sm])
  intro i h1 h2; simp [sm]
theorem sm_step {c : Es.Contract} {k : Nat} (hk : k < c.clauses.length) : (sm c k).set k (Es.mark0 (Es.at_ c.clauses (k : Int))) = sm c (k + 1) := by
  apply List.ext_getElem (by simp [sm])
  intro i h1 h2
  rw [List.getElem_set]
  simp only [sm, List.getElem_map, List.getElem_range]
  split
  · rename_i h; subst h; rw [if_pos (by omega)]
  · rename_i h
    by_cases hi : i < k
    · rw [if_pos hi, if_pos (by omega)]
    · rw [if_neg hi, if_neg (by omega)]
theorem sm_at {c : Es.Contract} {k : Nat} (hk : k < c.clauses.length) : Es.at_ (sm c k) (k : Int) = ⟨0, 0, 0, 0, false⟩ := by
  rw [Es.at_nat (by rw [sm_length]; exact hk)]; simp [sm]
theorem sm_end (c : Es.Contract) : sm c c.clauses.length = c.clauses.map Es.mark0 := by
  apply List.ext_getElem (by simp [sm])
  intro i h1 h2
  simp only [List.length_map] at h2
  simp only [sm, List.getElem_map, List.getElem_range]
  rw [if_pos h2, Es.at_nat h2]
/-- Where the parts of a first state lie. -/
structure StR (c : Es.Contract) (fh fu fm f4 : Nat) (th : TypeId) (cu cm : Nat → Nat → D) (e : Env) (st : S) : Prop where
  ne : 2 ≤ fh ∧ 2 ≤ fu ∧ 2 ≤ fm ∧ 2 ≤ f4 ∧ fh < st.nx ∧ fu < st.nx ∧ fm < st.nx ∧ f4 < st.nx ∧ fh ≠ fu ∧ fh ≠ fm ∧ fu ≠ fm ∧ f4 ≠ fh ∧ f4 ≠ fu ∧ f4 ≠ fm
  e1 : e 1 = .mp 0 0 7 0 0
  e2 : e 2 = .mp 1 0 4 0 0
  e4 : e 4 = .mp f4 0 4 0 0
  con : st.o 0 0 = some (.blk 7 1 27 (rowOf [.v (.int .i64 c.parties), slD 1 intC c.holders, slD 5 untC c.units, slD 7 actC c.acts, slD 16 clsC c.clauses, .v (.int .i64 c.days), slD 1 intC c.off]))
  res : st.o 1 0 = some (.blk 4 1 40 (rowOf [.v (.int .i64 0), .v (.slice none 0 0), .v (.slice none 0 0), .v (.slice none 0 0)]))
  sta : st.o f4 0 = some (.blk 4 1 40 (rowOf [.v (.int .i64 0), .ms fh 0 1 0 c.holders.length, .ms fu 0 1 0 c.acts.length, .ms fm 0 5 0 c.clauses.length]))
  h : st.o fh 0 = some (.blk 1 c.holders.length th (rowsOf intC c.holders))
  u : st.o fu 0 = some (.blk 1 c.acts.length 4 cu)
  m : st.o fm 0 = some (.blk 5 c.clauses.length 86 cm)
theorem start_spec (c : Es.Contract) (hf : Es.Fits c) : APure M 20 [conD c] (resD2 (Es.start c)) := by
  refine pure_of gpu func20 rfl results20 ntmps20 (by simp) ⟨pu_conD _, trivial⟩ ?_
  intro b
  simp only [go_sem, ↓reduceIte, decide_eq_true_eq, reduceCtorEq, Nat.reduceEqDiff, Nat.reduceLT, Nat.reduceLeDiff, Nat.reduceAdd, Nat.reduceSub, Nat.reduceMul, Nat.reduceGT, Int.reduceNeg, Int.reduceToNat, and_true, true_and, and_false, false_and, List.getElem?_toArray, List.getElem?_cons_zero, List.getElem?_cons_succ, List.cons_append, List.nil_append, if_true, if_false, Option.getD_some, Option.isSome_some, Bool.false_eq_true, List.append_nil, List.drop_zero, List.drop_succ_cons, Bool.cond_false_right, Bool.cond_false_left, Bool.cond_true_left, Bool.cond_true_right, ite_self, Bool.not_true, Bool.not_false, cond_true, cond_false, List.size_toArray, implies_true, true_implies, false_implies, List.all_cons, List.all_nil, List.nodup_cons, List.nodup_nil, List.mem_cons, List.not_mem_nil, or_false, false_or, not_false_eq_true, decide_true, Bool.and_true, Bool.and_self]
  repeat' (first | ((with_reducible refine call_at M_P M_G (valid_spec c hf) ?_); simp only [go_sem, ↓reduceIte, decide_eq_true_eq, reduceCtorEq, Nat.reduceEqDiff, Nat.reduceLT, Nat.reduceLeDiff, Nat.reduceAdd, Nat.reduceSub, Nat.reduceMul, Nat.reduceGT, Int.reduceNeg, Int.reduceToNat, and_true, true_and, and_false, false_and, List.getElem?_toArray, List.getElem?_cons_zero, List.getElem?_cons_succ, List.cons_append, List.nil_append, if_true, if_false, Option.getD_some, Option.isSome_some, Bool.false_eq_true, List.append_nil, List.drop_zero, List.drop_succ_cons, Bool.cond_false_right, Bool.cond_false_left, Bool.cond_true_left, Bool.cond_true_right, ite_self, Bool.not_true, Bool.not_false, cond_true, cond_false, List.size_toArray, implies_true, true_implies, false_implies, List.all_cons, List.all_nil, List.nodup_cons, List.nodup_nil, List.mem_cons, List.not_mem_nil, or_false, false_or, not_false_eq_true, decide_true, Bool.and_true, Bool.and_self]) | (with_reducible refine And.intro ?_ ?_) | ((with_reducible refine ite_cases ?_ ?_) <;> intro _))
  all_goals first
    | (rw [show Es.start c = (⟨0, [], [], []⟩, 1) by unfold Es.start; rw [if_pos (by simp_all)]]; exact Fz_tup ⟨fz_zero _, .v _, trivial⟩)
    | skip
  have hv : (Es.valid2 c).1 = 0 := by simp_all
  have hV := Es.valid2_ok hv
  have hsm := hV.small
  have hne := hV.hne
  have hst : Es.start c = (Es.begin_ c (Es.state0 c), 0) := by unfold Es.start; rw [if_neg (by simp [hv])]
  have hn1 : Es.len c.acts = (c.acts.length : Int) := rfl
  have hn2 : Es.len c.clauses = (c.clauses.length : Int) := rfl
  refine AWp.mono (Q := fun x e1 s1 => x = .normal ∧ ∃ fh fu fm f4 th, StR c fh fu fm f4 th (rowsOf booC (List.replicate c.acts.length false)) (rowsOf mrkC (List.replicate c.clauses.length ⟨0, 0, 0, 0, false⟩)) e1 s1) ?_ ?_
  · refine AWp.sim (Q := fun x e1 s1 => x = .normal ∧ ∃ fh fu fm f4 th, StR c fh fu fm f4 th (zeroRow [.bool false]) (zeroRow [.int .i64 0, .int .i64 0, .int .i64 0, .int .i64 0, .bool false]) e1 s1) ?_ ?sim
    case sim =>
      rintro x e1 ⟨o1, n1⟩ ⟨rfl, fh, fu, fm, f4, th, ⟨q0, k1, k2, k4, kc, kr, ks, kh, ku, km⟩⟩
      simp only at q0 kc kr ks kh ku km
      refine ⟨⟨St.set (St.set o1 fu 0 (some (.blk 1 c.acts.length 4 (rowsOf booC (List.replicate c.acts.length false))))) fm 0 (some (.blk 5 c.clauses.length 86 (rowsOf mrkC (List.replicate c.clauses.length ⟨0, 0, 0, 0, false⟩)))), n1⟩, fun cf hok => ?_, rfl, fh, fu, fm, f4, th, ⟨q0, k1, k2, k4, ?_, ?_, ?_, ?_, ?_, ?_⟩⟩
      · have h1 := cells_sim (s := ⟨o1, n1⟩) ku (cell' := rowsOf booC (List.replicate c.acts.length false)) (fun r j hr hj => by
          obtain rfl : j = 0 := by omega
          simp [zeroRow, rowsOf, List.getD, List.getElem?_replicate, hr, booC]) cf hok
        refine cells_sim (s := ⟨St.set o1 fu 0 _, n1⟩) (cell := zeroRow [.int .i64 0, .int .i64 0, .int .i64 0, .int .i64 0, .bool false]) ?_ (fun r j hr hj => ?_) cf h1
        · rw [show ({ o := St.set o1 fu 0 _, nx := n1 } : S).o fm 0 = St.set o1 fu 0 _ fm 0 from rfl, set_ne (by omega)]; exact km
        · have : j = 0 ∨ j = 1 ∨ j = 2 ∨ j = 3 ∨ j = 4 := by omega
          rcases this with rfl | rfl | rfl | rfl | rfl <;> simp [zeroRow, rowsOf, List.getD, List.getElem?_replicate, hr, mrkC]
      · dsimp only; rw [set_ne (by omega), set_ne (by omega)]; exact kc
      · dsimp only; rw [set_ne (by omega), set_ne (by omega)]; exact kr
      · dsimp only; rw [set_ne (by omega), set_ne (by omega)]; exact ks
      · dsimp only; rw [set_ne (by omega), set_ne (by omega)]; exact kh
      · dsimp only; rw [set_ne (by omega), set_eq]
      · dsimp only; rw [set_eq]
    refine awp_plan ((.op 0 (.op 1 (.op 3 (.op 4 (.op 5 (.op 7 (.op 8 (.op 9 (.alt 2 (.alt 6 (.alt 10 (.op 11 (.op 12 (.op 13 .done))) (.alt 12 (.op 10 (.op 11 (.op 13 .done))) .dead)) (.alt 10 (.alt 6 (.op 11 (.op 12 (.op 13 .done))) (.alt 12 (.op 6 (.op 11 (.op 13 .done))) .dead)) (.alt 12 (.alt 6 (.op 10 (.op 11 (.op 13 .done))) (.alt 10 (.op 6 (.op 11 (.op 13 .done))) .dead)) .dead))) (.alt 6 (.alt 2 (.alt 10 (.op 11 (.op 12 (.op 13 .done))) (.alt 12 (.op 10 (.op 11 (.op 13 .done))) .dead)) (.alt 10 (.alt 2 (.op 11 (.op 12 (.op 13 .done))) (.alt 12 (.op 2 (.op 11 (.op 13 .done))) .dead)) (.alt 12 (.alt 2 (.op 10 (.op 11 (.op 13 .done))) (.alt 10 (.op 2 (.op 11 (.op 13 .done))) .dead)) .dead))) (.alt 10 (.alt 2 (.alt 6 (.op 11 (.op 12 (.op 13 .done))) (.alt 12 (.op 6 (.op 11 (.op 13 .done))) .dead)) (.alt 6 (.alt 2 (.op 11 (.op 12 (.op 13 .done))) (.alt 12 (.op 2 (.op 11 (.op 13 .done))) .dead)) (.alt 12 (.alt 2 (.op 6 (.op 11 (.op 13 .done))) (.alt 6 (.op 2 (.op 11 (.op 13 .done))) .dead)) .dead))) (.alt 12 (.alt 2 (.alt 6 (.op 10 (.op 11 (.op 13 .done))) (.alt 10 (.op 6 (.op 11 (.op 13 .done))) .dead)) (.alt 6 (.alt 2 (.op 10 (.op 11 (.op 13 .done))) (.alt 10 (.op 2 (.op 11 (.op 13 .done))) .dead)) (.alt 10 (.alt 2 (.op 6 (.op 11 (.op 13 .done))) (.alt 6 (.op 2 (.op 11 (.op 13 .done))) .dead)) .dead))) .dead))))))))))))) [13] mix (by kernel_rfl) ?_
    simp only [go_sem, ↓reduceIte, decide_eq_true_eq, reduceCtorEq, Nat.reduceEqDiff, Nat.reduceLT, Nat.reduceLeDiff, Nat.reduceAdd, Nat.reduceSub, Nat.reduceMul, Nat.reduceGT, Int.reduceNeg, Int.reduceToNat, and_true, true_and, and_false, false_and, List.getElem?_toArray, List.getElem?_cons_zero, List.getElem?_cons_succ, List.cons_append, List.nil_append, if_true, if_false, Option.getD_some, Option.isSome_some, Bool.false_eq_true, List.append_nil, List.drop_zero, List.drop_succ_cons, Bool.cond_false_right, Bool.cond_false_left, Bool.cond_true_left, Bool.cond_true_right, ite_self, Bool.not_true, Bool.not_false, cond_true, cond_false, List.size_toArray, implies_true, true_implies, false_implies, List.all_cons, List.all_nil, List.nodup_cons, List.nodup_nil, List.mem_cons, List.not_mem_nil, or_false, false_or, not_false_eq_true, decide_true, Bool.and_true, Bool.and_self]
    repeat' (first
      | (with_reducible refine And.intro ?_ ?_)
      | (with_reducible refine cloneI_spec2 _ _ _ _ c.holders (by omega) hne _ _ _ ?_; intro B ty; simp only [go_sem, ↓reduceIte, decide_eq_true_eq, reduceCtorEq, Nat.reduceEqDiff, Nat.reduceLT, Nat.reduceLeDiff, Nat.reduceAdd, Nat.reduceSub, Nat.reduceMul, Nat.reduceGT, Int.reduceNeg, Int.reduceToNat, and_true, true_and, and_false, false_and, List.getElem?_toArray, List.getElem?_cons_zero, List.getElem?_cons_succ, List.cons_append, List.nil_append, if_true, if_false, Option.getD_some, Option.isSome_some, Bool.false_eq_true, List.append_nil, List.drop_zero, List.drop_succ_cons, Bool.cond_false_right, Bool.cond_false_left, Bool.cond_true_left, Bool.cond_true_right, ite_self, Bool.not_true, Bool.not_false, cond_true, cond_false, List.size_toArray, implies_true, true_implies, false_implies, List.all_cons, List.all_nil, List.nodup_cons, List.nodup_nil, List.mem_cons, List.not_mem_nil, or_false, false_or, not_false_eq_true, decide_true, Bool.and_true, Bool.and_self]))
    all_goals first
      | omega
      | (refine keeps_set ?_; rfl)
      | exact keeps_trans (b := ⟨_, 0⟩) (keeps_set rfl) (keeps_set rfl)
      | (refine ⟨_, _, _, _, _, ⟨?_, rfl, rfl, rfl, rfl, rfl, rfl, rfl, rfl, rfl⟩⟩
         dsimp only; omega)
  · rintro x e1 ⟨o1, n1⟩ ⟨rfl, fh, fu, fm, f4, th, ⟨q0, k1, k2, k4, kc, kr, ks, kh, ku, km⟩⟩
    simp only at q0 kc kr ks kh ku km
    simp only [thenA, go_sem, ↓reduceIte, decide_eq_true_eq, reduceCtorEq, Nat.reduceEqDiff, Nat.reduceLT, Nat.reduceLeDiff, Nat.reduceAdd, Nat.reduceSub, Nat.reduceMul, Nat.reduceGT, Int.reduceNeg, Int.reduceToNat, and_true, true_and, and_false, false_and, List.getElem?_toArray, List.getElem?_cons_zero, List.getElem?_cons_succ, List.cons_append, List.nil_append, if_true, if_false, Option.getD_some, Option.isSome_some, Bool.false_eq_true, List.append_nil, List.drop_zero, List.drop_succ_cons, Bool.cond_false_right, Bool.cond_false_left, Bool.cond_true_left, Bool.cond_true_right, ite_self, Bool.not_true, Bool.not_false, cond_true, cond_false, List.size_toArray, implies_true, true_implies, false_implies, List.all_cons, List.all_nil, List.nodup_cons, List.nodup_nil, List.mem_cons, List.not_mem_nil, or_false, false_or, not_false_eq_true, decide_true, Bool.and_true, Bool.and_self, k1, k2, k4, kc, kr, ks]
    have e0 : ∀ {a b : Nat}, a ≠ b → (a = b) = False := fun h => by simp [h]
    refine awp_count0 c.clauses.length (fun e0 s0 k e st => (e 1 = e0 1 ∧ e 2 = e0 2 ∧ e 4 = e0 4 ∧ e 24 = e0 24 ∧ e 25 = e0 25) ∧ e 26 = .v (.int .i64 k) ∧ Wrote o1 n1 fm 86 (sm c k) st.o st.nx) ⟨⟨rfl, rfl, rfl, rfl, rfl⟩, ?_, Nat.le_refl _, ?_, fun _ _ _ _ => rfl⟩ ?_
    · simp only [go_sem, ↓reduceIte, decide_eq_true_eq, reduceCtorEq, Nat.reduceEqDiff, Nat.reduceLT, Nat.reduceLeDiff, Nat.reduceAdd, Nat.reduceSub, Nat.reduceMul, Nat.reduceGT, Int.reduceNeg, Int.reduceToNat, and_true, true_and, and_false, false_and, List.getElem?_toArray, List.getElem?_cons_zero, List.getElem?_cons_succ, List.cons_append, List.nil_append, if_true, if_false, Option.getD_some, Option.isSome_some, Bool.false_eq_true, List.append_nil, List.drop_zero, List.drop_succ_cons, Bool.cond_false_right, Bool.cond_false_left, Bool.cond_true_left, Bool.cond_true_right, ite_self, Bool.not_true, Bool.not_false, cond_true, cond_false, List.size_toArray, implies_true, true_implies, false_implies, List.all_cons, List.all_nil, List.nodup_cons, List.nodup_nil, List.mem_cons, List.not_mem_nil, or_false, false_or, not_false_eq_true, decide_true, Bool.and_true, Bool.and_self]; rfl
    · rw [sm_length, sm_zero]; exact km
    rintro k e ⟨o2, n2⟩ hk ⟨⟨a1, a2, a4, a24, a25⟩, a26, hw⟩
    simp only [go_sem, ↓reduceIte, decide_eq_true_eq, reduceCtorEq, Nat.reduceEqDiff, Nat.reduceLT, Nat.reduceLeDiff, Nat.reduceAdd, Nat.reduceSub, Nat.reduceMul, Nat.reduceGT, Int.reduceNeg, Int.reduceToNat, and_true, true_and, and_false, false_and, List.getElem?_toArray, List.getElem?_cons_zero, List.getElem?_cons_succ, List.cons_append, List.nil_append, if_true, if_false, Option.getD_some, Option.isSome_some, Bool.false_eq_true, List.append_nil, List.drop_zero, List.drop_succ_cons, Bool.cond_false_right, Bool.cond_false_left, Bool.cond_true_left, Bool.cond_true_right, ite_self, Bool.not_true, Bool.not_false, cond_true, cond_false, List.size_toArray, implies_true, true_implies, false_implies, List.all_cons, List.all_nil, List.nodup_cons, List.nodup_nil, List.mem_cons, List.not_mem_nil, or_false, false_or, not_false_eq_true, decide_true, Bool.and_true, Bool.and_self, k1, k2, k4] at a1 a2 a4 a24 a25
    have hn2 := hw.1
    have hm2 := hw.2.1
    rw [sm_length] at hm2
    simp only at hn2 hm2
    have p0 : o2 0 0 = _ := (hw.2.2 0 0 (by omega) (by omega)).trans kc
    have p1 : o2 1 0 = _ := (hw.2.2 1 0 (by omega) (by omega)).trans kr
    have p4 : o2 f4 0 = _ := (hw.2.2 f4 0 (by omega) (by omega)).trans ks
    have u1 : (n2 = fm) = False := e0 (by omega); have u2 : (n2 = 0) = False := e0 (by omega); have u3 : (n2 = 1) = False := e0 (by omega); have u4 : (n2 = f4) = False := e0 (by omega); have u5 : (fm = n2) = False := e0 (by omega); have u6 : (fm = 0) = False := e0 (by omega); have u7 : (fm = 1) = False := e0 (by omega); have u8 : (fm = f4) = False := e0 (by omega); have u9 : (0 = n2) = False := e0 (by omega); have u10 : (0 = fm) = False := e0 (by omega); have u11 : (0 = 1) = False := e0 (by omega); have u12 : (0 = f4) = False := e0 (by omega); have u13 : (1 = n2) = False := e0 (by omega); have u14 : (1 = fm) = False := e0 (by omega); have u15 : (1 = 0) = False := e0 (by omega); have u16 : (1 = f4) = False := e0 (by omega); have u17 : (f4 = n2) = False := e0 (by omega); have u18 : (f4 = fm) = False := e0 (by omega); have u19 : (f4 = 0) = False := e0 (by omega); have u20 : (f4 = 1) = False := e0 (by omega)
    simp only [go_sem, ↓reduceIte, decide_eq_true_eq, reduceCtorEq, Nat.reduceEqDiff, Nat.reduceLT, Nat.reduceLeDiff, Nat.reduceAdd, Nat.reduceSub, Nat.reduceMul, Nat.reduceGT, Int.reduceNeg, Int.reduceToNat, and_true, true_and, and_false, false_and, List.getElem?_toArray, List.getElem?_cons_zero, List.getElem?_cons_succ, List.cons_append, List.nil_append, if_true, if_false, Option.getD_some, Option.isSome_some, Bool.false_eq_true, List.append_nil, List.drop_zero, List.drop_succ_cons, Bool.cond_false_right, Bool.cond_false_left, Bool.cond_true_left, Bool.cond_true_right, ite_self, Bool.not_true, Bool.not_false, cond_true, cond_false, List.size_toArray, implies_true, true_implies, false_implies, List.all_cons, List.all_nil, List.nodup_cons, List.nodup_nil, List.mem_cons, List.not_mem_nil, or_false, false_or, not_false_eq_true, decide_true, Bool.and_true, Bool.and_self, a1, a2, a4, a24, a25, a26, p0, p1, p4, hm2, u1, u2, u3, u4, u5, u6, u7, u8, u9, u10, u11, u12, u13, u14, u15, u16, u17, u18, u19, u20]
    refine ite_cases (fun hlt => ?_) (fun hlt => ?_)
    · have hlt' : k < c.clauses.length := Es.len_lt.1 hlt
      have him : k < (sm c k).length := by rw [sm_length]; exact hlt'
      simp only [go_sem, ↓reduceIte, decide_eq_true_eq, reduceCtorEq, Nat.reduceEqDiff, Nat.reduceLT, Nat.reduceLeDiff, Nat.reduceAdd, Nat.reduceSub, Nat.reduceMul, Nat.reduceGT, Int.reduceNeg, Int.reduceToNat, and_true, true_and, and_false, false_and, List.getElem?_toArray, List.getElem?_cons_zero, List.getElem?_cons_succ, List.cons_append, List.nil_append, if_true, if_false, Option.getD_some, Option.isSome_some, Bool.false_eq_true, List.append_nil, List.drop_zero, List.drop_succ_cons, Bool.cond_false_right, Bool.cond_false_left, Bool.cond_true_left, Bool.cond_true_right, ite_self, Bool.not_true, Bool.not_false, cond_true, cond_false, List.size_toArray, implies_true, true_implies, false_implies, List.all_cons, List.all_nil, List.nodup_cons, List.nodup_nil, List.mem_cons, List.not_mem_nil, or_false, false_or, not_false_eq_true, decide_true, Bool.and_true, Bool.and_self, setC_mrk3 him, setC_mrk0 (ms := (sm c k).set k _) (r := k) (by simpa using him), at_set him, List.set_set, sm_at hlt', Nat.zero_add, Int.toNat_natCast]
      have hfin : ∀ (B : Option SObj) (m' : Es.Mark), m' = Es.mark0 (Es.at_ c.clauses (k : Int)) → Wrote o1 n1 fm 86 (sm c (k + 1)) (St.set (St.set o2 n2 0 B) fm 0 (some (.blk 5 c.clauses.length 86 (rowsOf mrkC ((sm c k).set k m'))))) (n2 + 1) := fun B m' hm' => by
        refine ⟨by omega, ?_, fun f j h1 h2 => ?_⟩
        · rw [set_eq, hm', sm_step hlt', sm_length]
        · simp only [St.set]; rw [if_neg (by omega), if_neg (by omega)]; exact hw.2.2 f j h1 h2
      refine ⟨⟨by omega, hlt⟩, ⟨by omega, by omega⟩, hlt', ?_⟩
      refine ite_cases (fun hwv => ⟨⟨by omega, by omega⟩, hlt', hlt', ?_⟩) (fun hwv => ⟨hlt', ?_⟩)
      all_goals
        simp only [go_sem, ↓reduceIte, decide_eq_true_eq, reduceCtorEq, Nat.reduceEqDiff, Nat.reduceLT, Nat.reduceLeDiff, Nat.reduceAdd, Nat.reduceSub, Nat.reduceMul, Nat.reduceGT, Int.reduceNeg, Int.reduceToNat, and_true, true_and, and_false, false_and, List.getElem?_toArray, List.getElem?_cons_zero, List.getElem?_cons_succ, List.cons_append, List.nil_append, if_true, if_false, Option.getD_some, Option.isSome_some, Bool.false_eq_true, List.append_nil, List.drop_zero, List.drop_succ_cons, Bool.cond_false_right, Bool.cond_false_left, Bool.cond_true_left, Bool.cond_true_right, ite_self, Bool.not_true, Bool.not_false, cond_true, cond_false, List.size_toArray, implies_true, true_implies, false_implies, List.all_cons, List.all_nil, List.nodup_cons, List.nodup_nil, List.mem_cons, List.not_mem_nil, or_false, false_or, not_false_eq_true, decide_true, Bool.and_true, Bool.and_self, k1, k2, k4, a1, a2, a4, a24, a25, a26]
        exact ⟨by rw [wrap_i64 _ (by omega) (by omega)]; simp, hfin _ _ (by simp [Es.mark0, hwv])⟩
    · have hkk : k = c.clauses.length := by simp only [Es.len] at hlt; omega
      subst hkk
      rw [sm_end] at hm2
      have hC := Es.core_start hv
      have hH2 : HasSt o2 fh fu fm th 4 86 (Es.state0 c) := by
        refine ⟨(hw.2.2 fh 0 (by omega) (by omega)).trans kh, ?_, ?_⟩
        · have := (hw.2.2 fu 0 (by omega) (by omega)).trans ku
          simpa [Es.state0] using this
        · simpa [Es.state0] using hm2
      refine begin_spec' _ _ _ _ c (Es.state0 c) fh fu fm _ _ _ _ th _ _ _ _ _ rfl rfl (by simp [Es.state0]) (by simp [Es.state0]) hH2 (by omega) (fine_of hC) (by omega) fun o3 n3 hw3 => ?_
      have hn3 := hw3.1
      have q1 : o3 1 0 = _ := (hw3.2.2 1 0 (by omega) (by omega)).trans p1
      have q4 : o3 f4 0 = _ := (hw3.2.2 f4 0 (by omega) (by omega)).trans p4
      simp only [go_sem, ↓reduceIte, decide_eq_true_eq, reduceCtorEq, Nat.reduceEqDiff, Nat.reduceLT, Nat.reduceLeDiff, Nat.reduceAdd, Nat.reduceSub, Nat.reduceMul, Nat.reduceGT, Int.reduceNeg, Int.reduceToNat, and_true, true_and, and_false, false_and, List.getElem?_toArray, List.getElem?_cons_zero, List.getElem?_cons_succ, List.cons_append, List.nil_append, if_true, if_false, Option.getD_some, Option.isSome_some, Bool.false_eq_true, List.append_nil, List.drop_zero, List.drop_succ_cons, Bool.cond_false_right, Bool.cond_false_left, Bool.cond_true_left, Bool.cond_true_right, ite_self, Bool.not_true, Bool.not_false, cond_true, cond_false, List.size_toArray, implies_true, true_implies, false_implies, List.all_cons, List.all_nil, List.nodup_cons, List.nodup_nil, List.mem_cons, List.not_mem_nil, or_false, false_or, not_false_eq_true, decide_true, Bool.and_true, Bool.and_self, k1, k2, k4, a1, a2, a4, a24, a25, a26, q1, q4, u1, u2, u3, u4, u5, u6, u7, u8, u9, u10, u11, u12, u13, u14, u15, u16, u17, u18, u19, u20]
      rw [hst]
      have hHB := has_wrote hH2 hw3 (by omega)
      rw [← Es.begin_eq hC.ml] at hHB
      refine Fz_tup ⟨HasSt.fz' (hHB.set (by omega) _ _) ?_ ?_ ?_ ?_, .v _, trivial⟩
      · rw [Es.begin_day hC.ml]; rfl
      · rw [Es.begin_holders hC.ml]; rfl
      · rw [Es.begin_used hC.ml]; simp [Es.state0]
      · rw [Es.begin_len hC.ml]; simp [Es.state0]
end Tryd
end Go.Proofs
end
section
namespace Go.Proofs
open Go Go.Abs
set_option linter.unusedSimpArgs false
set_option linter.unusedVariables false
set_option maxRecDepth 10000
namespace Tryd
@[go_sem] theorem resD2_eq (x : Es.State × Int) : resD2 x = .tup [staD x.1, .v (.int .i64 x.2)] := nr rfl
theorem few_spec (s : Es.State) : APure M 25 [staD s] (.v (.bool (Es.few s))) := by
  refine pure_of gpu func25 rfl results25 ntmps25 (by simp) ⟨pu_staD _, trivial⟩ ?_
  intro b
  simp only [go_sem, ↓reduceIte, decide_eq_true_eq, reduceCtorEq, Nat.reduceEqDiff, Nat.reduceLT, Nat.reduceLeDiff, Nat.reduceAdd, Nat.reduceSub, Nat.reduceMul, Nat.reduceGT, Int.reduceNeg, Int.reduceToNat, and_true, true_and, and_false, false_and, List.getElem?_toArray, List.getElem?_cons_zero, List.getElem?_cons_succ, List.cons_append, List.nil_append, if_true, if_false, Option.getD_some, Option.isSome_some, Bool.false_eq_true, List.append_nil, List.drop_zero, List.drop_succ_cons, Bool.cond_false_right, Bool.cond_false_left, Bool.cond_true_left, Bool.cond_true_right, ite_self, Bool.not_true, Bool.not_false, cond_true, cond_false, List.size_toArray, implies_true, true_implies, false_implies, List.all_cons, List.all_nil, List.nodup_cons, List.nodup_nil, List.mem_cons, List.not_mem_nil, or_false, false_or, not_false_eq_true, decide_true, Bool.and_true, Bool.and_self]
  repeat' (first | (with_reducible refine And.intro ?_ ?_) | ((with_reducible refine ite_cases ?_ ?_) <;> intro _))
  all_goals first | (simp [Es.few, *]; done) | (simp [Es.few, *]; omega) | (simp_all [Es.few]; done) | (simp_all [Es.few]; omega)
theorem small_spec (c : Es.Contract) (n : Int) (hf : Es.Fits c) : APure M 15 [conD c, .v (.int .i64 n)] (.v (.bool (Es.small c n))) := by
  refine pure_of gpu func15 rfl results15 ntmps15 (by simp) ⟨pu_conD _, .v _, trivial⟩ ?_
  intro b
  simp only [go_sem, ↓reduceIte, decide_eq_true_eq, reduceCtorEq, Nat.reduceEqDiff, Nat.reduceLT, Nat.reduceLeDiff, Nat.reduceAdd, Nat.reduceSub, Nat.reduceMul, Nat.reduceGT, Int.reduceNeg, Int.reduceToNat, and_true, true_and, and_false, false_and, List.getElem?_toArray, List.getElem?_cons_zero, List.getElem?_cons_succ, List.cons_append, List.nil_append, if_true, if_false, Option.getD_some, Option.isSome_some, Bool.false_eq_true, List.append_nil, List.drop_zero, List.drop_succ_cons, Bool.cond_false_right, Bool.cond_false_left, Bool.cond_true_left, Bool.cond_true_right, ite_self, Bool.not_true, Bool.not_false, cond_true, cond_false, List.size_toArray, implies_true, true_implies, false_implies, List.all_cons, List.all_nil, List.nodup_cons, List.nodup_nil, List.mem_cons, List.not_mem_nil, or_false, false_or, not_false_eq_true, decide_true, Bool.and_true, Bool.and_self]
  have hc := hf.clauses
  repeat' (first | (with_reducible refine And.intro ?_ ?_) | ((with_reducible refine ite_cases ?_ ?_) <;> intro _))
  all_goals first
    | (first | (simp [Es.small, *]; done) | (simp [Es.small, *]; omega) | (simp_all [Es.small]; done) | (simp_all [Es.small]; omega))
    | skip
  have hsm : Es.small c n = c.clauses.all fun x => decide (Es.len x.start ≤ 20) := by
    unfold Es.small; rw [if_neg (by simp_all)]
  rw [hsm]
  refine awp_count0 c.clauses.length (fun e0 s0 k e st => e 2 = e0 2 ∧ e 5 = .v (.int .i64 k) ∧ st = s0 ∧ ∀ x ∈ c.clauses.take k, decide (Es.len x.start ≤ 20) = true) ⟨rfl, ?_, rfl, by simp⟩ ?_
  · simp only [go_sem, ↓reduceIte, decide_eq_true_eq, reduceCtorEq, Nat.reduceEqDiff, Nat.reduceLT, Nat.reduceLeDiff, Nat.reduceAdd, Nat.reduceSub, Nat.reduceMul, Nat.reduceGT, Int.reduceNeg, Int.reduceToNat, and_true, true_and, and_false, false_and, List.getElem?_toArray, List.getElem?_cons_zero, List.getElem?_cons_succ, List.cons_append, List.nil_append, if_true, if_false, Option.getD_some, Option.isSome_some, Bool.false_eq_true, List.append_nil, List.drop_zero, List.drop_succ_cons, Bool.cond_false_right, Bool.cond_false_left, Bool.cond_true_left, Bool.cond_true_right, ite_self, Bool.not_true, Bool.not_false, cond_true, cond_false, List.size_toArray, implies_true, true_implies, false_implies, List.all_cons, List.all_nil, List.nodup_cons, List.nodup_nil, List.mem_cons, List.not_mem_nil, or_false, false_or, not_false_eq_true, decide_true, Bool.and_true, Bool.and_self]; rfl
  rintro k e st hk ⟨a2, a5, rfl, hall⟩
  simp only [go_sem, ↓reduceIte, decide_eq_true_eq, reduceCtorEq, Nat.reduceEqDiff, Nat.reduceLT, Nat.reduceLeDiff, Nat.reduceAdd, Nat.reduceSub, Nat.reduceMul, Nat.reduceGT, Int.reduceNeg, Int.reduceToNat, and_true, true_and, and_false, false_and, List.getElem?_toArray, List.getElem?_cons_zero, List.getElem?_cons_succ, List.cons_append, List.nil_append, if_true, if_false, Option.getD_some, Option.isSome_some, Bool.false_eq_true, List.append_nil, List.drop_zero, List.drop_succ_cons, Bool.cond_false_right, Bool.cond_false_left, Bool.cond_true_left, Bool.cond_true_right, ite_self, Bool.not_true, Bool.not_false, cond_true, cond_false, List.size_toArray, implies_true, true_implies, false_implies, List.all_cons, List.all_nil, List.nodup_cons, List.nodup_nil, List.mem_cons, List.not_mem_nil, or_false, false_or, not_false_eq_true, decide_true, Bool.and_true, Bool.and_self] at a2
  simp only [go_sem, ↓reduceIte, decide_eq_true_eq, reduceCtorEq, Nat.reduceEqDiff, Nat.reduceLT, Nat.reduceLeDiff, Nat.reduceAdd, Nat.reduceSub, Nat.reduceMul, Nat.reduceGT, Int.reduceNeg, Int.reduceToNat, and_true, true_and, and_false, false_and, List.getElem?_toArray, List.getElem?_cons_zero, List.getElem?_cons_succ, List.cons_append, List.nil_append, if_true, if_false, Option.getD_some, Option.isSome_some, Bool.false_eq_true, List.append_nil, List.drop_zero, List.drop_succ_cons, Bool.cond_false_right, Bool.cond_false_left, Bool.cond_true_left, Bool.cond_true_right, ite_self, Bool.not_true, Bool.not_false, cond_true, cond_false, List.size_toArray, implies_true, true_implies, false_implies, List.all_cons, List.all_nil, List.nodup_cons, List.nodup_nil, List.mem_cons, List.not_mem_nil, or_false, false_or, not_false_eq_true, decide_true, Bool.and_true, Bool.and_self, a2, a5]
  refine ite_cases (fun hlt => ?_) (fun hlt => ?_)
  · have hlt' : k < c.clauses.length := Es.len_lt.1 hlt
    refine ⟨⟨by omega, hlt⟩, ?_⟩
    refine ite_cases (fun h1 => ?_) (fun h1 => ?_)
    · rw [Es.all_bad (p := fun x => decide (Es.len x.start ≤ 20)) hlt' (by simp only [decide_eq_false_iff_not]; omega)]
    · refine ⟨hlt', ?_⟩
      simp only [go_sem, ↓reduceIte, decide_eq_true_eq, reduceCtorEq, Nat.reduceEqDiff, Nat.reduceLT, Nat.reduceLeDiff, Nat.reduceAdd, Nat.reduceSub, Nat.reduceMul, Nat.reduceGT, Int.reduceNeg, Int.reduceToNat, and_true, true_and, and_false, false_and, List.getElem?_toArray, List.getElem?_cons_zero, List.getElem?_cons_succ, List.cons_append, List.nil_append, if_true, if_false, Option.getD_some, Option.isSome_some, Bool.false_eq_true, List.append_nil, List.drop_zero, List.drop_succ_cons, Bool.cond_false_right, Bool.cond_false_left, Bool.cond_true_left, Bool.cond_true_right, ite_self, Bool.not_true, Bool.not_false, cond_true, cond_false, List.size_toArray, implies_true, true_implies, false_implies, List.all_cons, List.all_nil, List.nodup_cons, List.nodup_nil, List.mem_cons, List.not_mem_nil, or_false, false_or, not_false_eq_true, decide_true, Bool.and_true, Bool.and_self, a2, a5]
      exact ⟨by rw [wrap_i64 _ (by omega) (by omega)]; simp, fun x hx => of_decide_eq_true (Es.all_step (p := fun x => decide (Es.len x.start ≤ 20)) hlt' (fun x hx => by simpa using hall x hx) (by simp only [decide_eq_true_eq]; omega) x hx)⟩
  · rw [Es.all_end (p := fun x => decide (Es.len x.start ≤ 20)) hlt hk hall]
end Tryd
end Go.Proofs
end
section
namespace Go.Proofs
open Go Go.Abs
set_option linter.unusedSimpArgs false
set_option linter.unusedVariables false
set_option maxRecDepth 10000
namespace Tryd
/-- What the caller of a loop over the steps of a trace owns: J speaks of nothing that the loop itself makes; fs is what the loop makes first. -/
structure ExJ (c : Es.Contract) (l : List Int) (fc fl fp fe fs : Nat) (tl tp te : TypeId) (J : Nat → S → Prop) : Prop where
  con : ∀ i st, J i st → st.o fc 0 = some (.blk 7 1 27 (rowOf [.v (.int .i64 c.parties), slD 1 intC c.holders, slD 5 untC c.units, slD 7 actC c.acts, slD 16 clsC c.clauses, .v (.int .i64 c.days), slD 1 intC c.off]))
  lst : ∀ i st, J i st → st.o fl 0 = some (.blk 1 1 tl (rowOf [slD 1 intC l]))
  ptr : ∀ i st, J i st → st.o fp 0 = some (.blk 1 1 tp (rowOf [.mp fe 0 1 0 0]))
  err : ∀ i st, J i st → ∃ cell, st.o fe 0 = some (.blk 1 1 te cell)
  nxt : ∀ i st, J i st → fs ≤ st.nx
  same : ∀ i o nx o' nx', J i ⟨o, nx⟩ → nx ≤ nx' → (∀ f j, f < nx → f ≠ fs → o' f j = o f j) → J i ⟨o', nx'⟩
  lt : fc < fs ∧ fl < fs ∧ fp < fs ∧ fe < fs
theorem executed_spec (X : D → Value → Prop) (N : Nat) (r : Option Nat) (b : Nat) (c : Es.Contract) (l : List Int) (fe : Nat) (o : St) (nx : Nat) (K : D → S → Prop)
    (hk : K (.fn (.func 98) [.mp nx 0 7 0 0, .mp (nx + 1) 0 1 0 0, .mp (nx + 1 + 1) 0 1 0 0])
      ⟨St.set (St.set (St.set o nx 0 (some (.blk 7 1 27 (rowOf [.v (.int .i64 c.parties), slD 1 intC c.holders, slD 5 untC c.units, slD 7 actC c.acts, slD 16 clsC c.clauses, .v (.int .i64 c.days), slD 1 intC c.off]))))
        (nx + 1) 0 (some (.blk 1 1 22 (rowOf [slD 1 intC l])))) (nx + 1 + 1) 0 (some (.blk 1 1 120 (rowOf [.mp fe 0 1 0 0]))), nx + 1 + 1 + 1⟩) :
    ACall { P := prog, G := gl, X := X, N := N, r := r, b := b } 73 [conD c, slD 1 intC l, .mp fe 0 1 0 0] ⟨o, nx⟩ K := by
  refine acall_ofA (M := { P := prog, G := gl, X := X, N := N, r := r, b := b }) func73 rfl results73 ntmps73 (by simp) fun b => ?_
  simp only [go_sem, ↓reduceIte, decide_eq_true_eq, reduceCtorEq, Nat.reduceEqDiff, Nat.reduceLT, Nat.reduceLeDiff, Nat.reduceAdd, Nat.reduceSub, Nat.reduceMul, Nat.reduceGT, Int.reduceNeg, Int.reduceToNat, and_true, true_and, and_false, false_and, List.getElem?_toArray, List.getElem?_cons_zero, List.getElem?_cons_succ, List.cons_append, List.nil_append, if_true, if_false, Option.getD_some, Option.isSome_some, Bool.false_eq_true, List.append_nil, List.drop_zero, List.drop_succ_cons, Bool.cond_false_right, Bool.cond_false_left, Bool.cond_true_left, Bool.cond_true_right, ite_self, Bool.not_true, Bool.not_false, cond_true, cond_false, List.size_toArray, implies_true, true_implies, false_implies, List.all_cons, List.all_nil, List.nodup_cons, List.nodup_nil, List.mem_cons, List.not_mem_nil, or_false, false_or, not_false_eq_true, decide_true, Bool.and_true, Bool.and_self]
  exact hk
theorem executed1_spec (X : D → Value → Prop) (N : Nat) (r : Option Nat) (b : Nat) (y : Nat) (c : Es.Contract) (l : List Int) (fc fl fp fe : Nat) (tl tp te : TypeId) (J : Nat → S → Prop) (o : St) (nx : Nat) (hJ : ExJ c l fc fl fp fe nx tl tp te J)
    (hf : Es.Fits c) (hl : l.length ≤ 1000000) (hst : (Es.start c).2 = 0)
    (hY : ∀ (N : Nat) (b : Nat) (i : Nat) (o1 o2 : St) (n1 : Nat), i < l.length → J i ⟨o1, n1⟩ → nx < n1 → (∀ f j, f < n1 → o2 f j = o1 f j) → (Es.runL c (l.take i)).2 = 0 → (Es.step c (Es.runL c (l.take i)).1 (Es.at_ l (i : Int))).2 = 0 →
      ARound { P := prog, G := gl, X := X, N := N, r := none, b := b } y [.v (.int .i64 (Es.at_ l (i : Int))), staD (Es.runL c (l.take i)).1] ⟨o2, n1 + 1⟩
        (fun d st' => d = .v (.bool true) ∧ J (i + 1) st' ∧ n1 + 1 ≤ st'.nx ∧ st'.o nx 0 = o2 nx 0 ∧ st'.o n1 0 = o2 n1 0))
    (h0 : J 0 ⟨o, nx⟩) (K : D → S → Prop)
    (hk : ∀ i o' nx' cell, i ≤ l.length → J i ⟨o', nx'⟩ → cell 0 0 = .v (.int .i64 (Es.runL c l).2) → ((Es.runL c l).2 = 0 → i = l.length) → K (.tup []) ⟨St.set o' fe 0 (some (.blk 1 1 te cell)), nx'⟩) :
    ACall { P := prog, G := gl, X := X, N := N, r := r, b := b } 98 [.fn (.yield y) [], .mp fc 0 7 0 0, .mp fl 0 1 0 0, .mp fp 0 1 0 0] ⟨o, nx⟩ K := by
  refine acall_ofA (M := { P := prog, G := gl, X := X, N := N, r := r, b := b }) func98 rfl results98 ntmps98 (by simp) fun b => ?_
  simp only [go_sem, ↓reduceIte, decide_eq_true_eq, reduceCtorEq, Nat.reduceEqDiff, Nat.reduceLT, Nat.reduceLeDiff, Nat.reduceAdd, Nat.reduceSub, Nat.reduceMul, Nat.reduceGT, Int.reduceNeg, Int.reduceToNat, and_true, true_and, and_false, false_and, List.getElem?_toArray, List.getElem?_cons_zero, List.getElem?_cons_succ, List.cons_append, List.nil_append, if_true, if_false, Option.getD_some, Option.isSome_some, Bool.false_eq_true, List.append_nil, List.drop_zero, List.drop_succ_cons, Bool.cond_false_right, Bool.cond_false_left, Bool.cond_true_left, Bool.cond_true_right, ite_self, Bool.not_true, Bool.not_false, cond_true, cond_false, List.size_toArray, implies_true, true_implies, false_implies, List.all_cons, List.all_nil, List.nodup_cons, List.nodup_nil, List.mem_cons, List.not_mem_nil, or_false, false_or, not_false_eq_true, decide_true, Bool.and_true, Bool.and_self]
  have j1 := hJ.con _ _ h0
  have j2 := hJ.lst _ _ h0
  have j5 := hJ.lt
  simp only at j1 j2
  simp only [go_sem, ↓reduceIte, decide_eq_true_eq, reduceCtorEq, Nat.reduceEqDiff, Nat.reduceLT, Nat.reduceLeDiff, Nat.reduceAdd, Nat.reduceSub, Nat.reduceMul, Nat.reduceGT, Int.reduceNeg, Int.reduceToNat, and_true, true_and, and_false, false_and, List.getElem?_toArray, List.getElem?_cons_zero, List.getElem?_cons_succ, List.cons_append, List.nil_append, if_true, if_false, Option.getD_some, Option.isSome_some, Bool.false_eq_true, List.append_nil, List.drop_zero, List.drop_succ_cons, Bool.cond_false_right, Bool.cond_false_left, Bool.cond_true_left, Bool.cond_true_right, ite_self, Bool.not_true, Bool.not_false, cond_true, cond_false, List.size_toArray, implies_true, true_implies, false_implies, List.all_cons, List.all_nil, List.nodup_cons, List.nodup_nil, List.mem_cons, List.not_mem_nil, or_false, false_or, not_false_eq_true, decide_true, Bool.and_true, Bool.and_self, j1, j2]
  refine call_at M_P M_G (start_spec c hf) ?_
  have m0 : (fl = nx) = False := by simp only [eq_iff_iff, iff_false]; omega
  simp only [go_sem, ↓reduceIte, decide_eq_true_eq, reduceCtorEq, Nat.reduceEqDiff, Nat.reduceLT, Nat.reduceLeDiff, Nat.reduceAdd, Nat.reduceSub, Nat.reduceMul, Nat.reduceGT, Int.reduceNeg, Int.reduceToNat, and_true, true_and, and_false, false_and, List.getElem?_toArray, List.getElem?_cons_zero, List.getElem?_cons_succ, List.cons_append, List.nil_append, if_true, if_false, Option.getD_some, Option.isSome_some, Bool.false_eq_true, List.append_nil, List.drop_zero, List.drop_succ_cons, Bool.cond_false_right, Bool.cond_false_left, Bool.cond_true_left, Bool.cond_true_right, ite_self, Bool.not_true, Bool.not_false, cond_true, cond_false, List.size_toArray, implies_true, true_implies, false_implies, List.all_cons, List.all_nil, List.nodup_cons, List.nodup_nil, List.mem_cons, List.not_mem_nil, or_false, false_or, not_false_eq_true, decide_true, Bool.and_true, Bool.and_self, j1, j2, m0]
  refine awp_count0 l.length (fun e0 s0 k e st => (e 0 = e0 0 ∧ e 1 = e0 1 ∧ e 2 = e0 2 ∧ e 3 = e0 3 ∧ e 5 = e0 5 ∧ e 15 = e0 15 ∧ e 16 = e0 16) ∧ e 17 = .v (.int .i64 k) ∧ e 6 = .v (.int .i64 0) ∧ J k st ∧ nx < st.nx ∧ (Es.runL c (l.take k)).2 = 0 ∧
      st.o nx 0 = some (.blk 4 1 40 (rowOf [.v (.int .i64 (Es.runL c (l.take k)).1.day), slD 1 intC (Es.runL c (l.take k)).1.holders, slD 1 booC (Es.runL c (l.take k)).1.used, slD 5 mrkC (Es.runL c (l.take k)).1.marks]))) ⟨⟨rfl, rfl, rfl, rfl, rfl, rfl, rfl⟩, ?_, ?_, ?_, ?_, hst, ?_⟩ ?_
  · simp only [go_sem, ↓reduceIte, decide_eq_true_eq, reduceCtorEq, Nat.reduceEqDiff, Nat.reduceLT, Nat.reduceLeDiff, Nat.reduceAdd, Nat.reduceSub, Nat.reduceMul, Nat.reduceGT, Int.reduceNeg, Int.reduceToNat, and_true, true_and, and_false, false_and, List.getElem?_toArray, List.getElem?_cons_zero, List.getElem?_cons_succ, List.cons_append, List.nil_append, if_true, if_false, Option.getD_some, Option.isSome_some, Bool.false_eq_true, List.append_nil, List.drop_zero, List.drop_succ_cons, Bool.cond_false_right, Bool.cond_false_left, Bool.cond_true_left, Bool.cond_true_right, ite_self, Bool.not_true, Bool.not_false, cond_true, cond_false, List.size_toArray, implies_true, true_implies, false_implies, List.all_cons, List.all_nil, List.nodup_cons, List.nodup_nil, List.mem_cons, List.not_mem_nil, or_false, false_or, not_false_eq_true, decide_true, Bool.and_true, Bool.and_self]; rfl
  · simp only [go_sem, ↓reduceIte, decide_eq_true_eq, reduceCtorEq, Nat.reduceEqDiff, Nat.reduceLT, Nat.reduceLeDiff, Nat.reduceAdd, Nat.reduceSub, Nat.reduceMul, Nat.reduceGT, Int.reduceNeg, Int.reduceToNat, and_true, true_and, and_false, false_and, List.getElem?_toArray, List.getElem?_cons_zero, List.getElem?_cons_succ, List.cons_append, List.nil_append, if_true, if_false, Option.getD_some, Option.isSome_some, Bool.false_eq_true, List.append_nil, List.drop_zero, List.drop_succ_cons, Bool.cond_false_right, Bool.cond_false_left, Bool.cond_true_left, Bool.cond_true_right, ite_self, Bool.not_true, Bool.not_false, cond_true, cond_false, List.size_toArray, implies_true, true_implies, false_implies, List.all_cons, List.all_nil, List.nodup_cons, List.nodup_nil, List.mem_cons, List.not_mem_nil, or_false, false_or, not_false_eq_true, decide_true, Bool.and_true, Bool.and_self, hst]
  · exact hJ.same _ _ _ _ _ h0 (Nat.le_succ _) fun f j h1 h2 => by simp only [St.set]; rw [if_neg (by omega)]; try rw [if_neg (by omega)]
  · exact Nat.lt_succ_self _
  · exact set_eq
  rintro k e ⟨o2, n1⟩ hk2 ⟨⟨a0, a1, a2, a3, a5, a15, a16⟩, a17, a6, hJk, hn1, hrun, hso⟩
  simp only [go_sem, ↓reduceIte, decide_eq_true_eq, reduceCtorEq, Nat.reduceEqDiff, Nat.reduceLT, Nat.reduceLeDiff, Nat.reduceAdd, Nat.reduceSub, Nat.reduceMul, Nat.reduceGT, Int.reduceNeg, Int.reduceToNat, and_true, true_and, and_false, false_and, List.getElem?_toArray, List.getElem?_cons_zero, List.getElem?_cons_succ, List.cons_append, List.nil_append, if_true, if_false, Option.getD_some, Option.isSome_some, Bool.false_eq_true, List.append_nil, List.drop_zero, List.drop_succ_cons, Bool.cond_false_right, Bool.cond_false_left, Bool.cond_true_left, Bool.cond_true_right, ite_self, Bool.not_true, Bool.not_false, cond_true, cond_false, List.size_toArray, implies_true, true_implies, false_implies, List.all_cons, List.all_nil, List.nodup_cons, List.nodup_nil, List.mem_cons, List.not_mem_nil, or_false, false_or, not_false_eq_true, decide_true, Bool.and_true, Bool.and_self] at a0 a1 a2 a3 a5 a15 a16
  have i1 := hJ.con _ _ hJk
  have i2 := hJ.ptr _ _ hJk
  obtain ⟨cell, i3⟩ := hJ.err _ _ hJk
  simp only at i1 i2 i3 hn1 hso
  have m1 : (fc = n1) = False := by simp only [eq_iff_iff, iff_false]; omega
  have m2 : (fp = n1) = False := by simp only [eq_iff_iff, iff_false]; omega
  have m3 : (fe = n1) = False := by simp only [eq_iff_iff, iff_false]; omega
  have m4 : (nx = n1) = False := by simp only [eq_iff_iff, iff_false]; omega
  simp only [go_sem, ↓reduceIte, decide_eq_true_eq, reduceCtorEq, Nat.reduceEqDiff, Nat.reduceLT, Nat.reduceLeDiff, Nat.reduceAdd, Nat.reduceSub, Nat.reduceMul, Nat.reduceGT, Int.reduceNeg, Int.reduceToNat, and_true, true_and, and_false, false_and, List.getElem?_toArray, List.getElem?_cons_zero, List.getElem?_cons_succ, List.cons_append, List.nil_append, if_true, if_false, Option.getD_some, Option.isSome_some, Bool.false_eq_true, List.append_nil, List.drop_zero, List.drop_succ_cons, Bool.cond_false_right, Bool.cond_false_left, Bool.cond_true_left, Bool.cond_true_right, ite_self, Bool.not_true, Bool.not_false, cond_true, cond_false, List.size_toArray, implies_true, true_implies, false_implies, List.all_cons, List.all_nil, List.nodup_cons, List.nodup_nil, List.mem_cons, List.not_mem_nil, or_false, false_or, not_false_eq_true, decide_true, Bool.and_true, Bool.and_self, a0, a1, a2, a3, a5, a15, a16, a17, a6, i1, i2, i3, hso, m1, m2, m3, m4]
  refine ite_cases (fun hlt => ?_) (fun hlt => ?_)
  · have hlt' : k < l.length := Es.len_lt.1 hlt
    refine ⟨⟨by omega, hlt⟩, ?_⟩
    refine call_at M_P M_G (step_spec c (Es.runL c (l.take k)).1 (Es.at_ l (k : Int)) hf (Es.sfits_run _ _)) ?_
    simp only [go_sem, ↓reduceIte, decide_eq_true_eq, reduceCtorEq, Nat.reduceEqDiff, Nat.reduceLT, Nat.reduceLeDiff, Nat.reduceAdd, Nat.reduceSub, Nat.reduceMul, Nat.reduceGT, Int.reduceNeg, Int.reduceToNat, and_true, true_and, and_false, false_and, List.getElem?_toArray, List.getElem?_cons_zero, List.getElem?_cons_succ, List.cons_append, List.nil_append, if_true, if_false, Option.getD_some, Option.isSome_some, Bool.false_eq_true, List.append_nil, List.drop_zero, List.drop_succ_cons, Bool.cond_false_right, Bool.cond_false_left, Bool.cond_true_left, Bool.cond_true_right, ite_self, Bool.not_true, Bool.not_false, cond_true, cond_false, List.size_toArray, implies_true, true_implies, false_implies, List.all_cons, List.all_nil, List.nodup_cons, List.nodup_nil, List.mem_cons, List.not_mem_nil, or_false, false_or, not_false_eq_true, decide_true, Bool.and_true, Bool.and_self, a0, a1, a2, a3, a5, a15, a16, a17, a6, i1, i2, i3, hso, m1, m2, m3, m4]
    have hsame : ∀ B, J k ⟨St.set o2 n1 0 B, n1 + 1⟩ := fun B => hJ.same _ _ _ _ _ hJk (Nat.le_succ _) fun f j h1 h2 => set_ne (by omega)
    refine ite_cases (fun he => ?_) (fun he => ?_)
    · have hok : (Es.step c (Es.runL c (l.take k)).1 (Es.at_ l (k : Int))).2 = 0 := by simpa using he
      have hnext := Es.run_next hlt' hrun
      refine (hY _ _ k o2 _ n1 hlt' hJk hn1 (fun f j h => set_ne (by omega)) hrun hok).mono ?_
      rintro d ⟨o3, n3⟩ ⟨rfl, hJ3, hn3, hs3, ht3⟩
      rw [set_eq] at ht3
      rw [set_ne (by omega), hso] at hs3
      simp only at hn3 hs3 ht3
      simp only [go_sem, ↓reduceIte, decide_eq_true_eq, reduceCtorEq, Nat.reduceEqDiff, Nat.reduceLT, Nat.reduceLeDiff, Nat.reduceAdd, Nat.reduceSub, Nat.reduceMul, Nat.reduceGT, Int.reduceNeg, Int.reduceToNat, and_true, true_and, and_false, false_and, List.getElem?_toArray, List.getElem?_cons_zero, List.getElem?_cons_succ, List.cons_append, List.nil_append, if_true, if_false, Option.getD_some, Option.isSome_some, Bool.false_eq_true, List.append_nil, List.drop_zero, List.drop_succ_cons, Bool.cond_false_right, Bool.cond_false_left, Bool.cond_true_left, Bool.cond_true_right, ite_self, Bool.not_true, Bool.not_false, cond_true, cond_false, List.size_toArray, implies_true, true_implies, false_implies, List.all_cons, List.all_nil, List.nodup_cons, List.nodup_nil, List.mem_cons, List.not_mem_nil, or_false, false_or, not_false_eq_true, decide_true, Bool.and_true, Bool.and_self, a0, a1, a2, a3, a5, a15, a16, a17, a6, i1, i2, i3, hs3, ht3, m1, m2, m3, m4]
      refine ⟨hlt', ?_⟩
      simp only [go_sem, ↓reduceIte, decide_eq_true_eq, reduceCtorEq, Nat.reduceEqDiff, Nat.reduceLT, Nat.reduceLeDiff, Nat.reduceAdd, Nat.reduceSub, Nat.reduceMul, Nat.reduceGT, Int.reduceNeg, Int.reduceToNat, and_true, true_and, and_false, false_and, List.getElem?_toArray, List.getElem?_cons_zero, List.getElem?_cons_succ, List.cons_append, List.nil_append, if_true, if_false, Option.getD_some, Option.isSome_some, Bool.false_eq_true, List.append_nil, List.drop_zero, List.drop_succ_cons, Bool.cond_false_right, Bool.cond_false_left, Bool.cond_true_left, Bool.cond_true_right, ite_self, Bool.not_true, Bool.not_false, cond_true, cond_false, List.size_toArray, implies_true, true_implies, false_implies, List.all_cons, List.all_nil, List.nodup_cons, List.nodup_nil, List.mem_cons, List.not_mem_nil, or_false, false_or, not_false_eq_true, decide_true, Bool.and_true, Bool.and_self, a0, a1, a2, a3, a5, a15, a16, a17, a6]
      rw [hnext]
      refine ⟨by rw [wrap_i64 _ (by omega) (by omega)]; simp, by rw [hok], hJ.same _ _ _ _ _ hJ3 (Nat.le_refl _) (fun f j h1 h2 => set_ne (by omega)), by omega, hok, rfl⟩
    · have hne : (Es.step c (Es.runL c (l.take k)).1 (Es.at_ l (k : Int))).2 ≠ 0 := by simpa using he
      have hrr := Es.run_refused hlt' hrun hne
      refine hk k _ _ _ hk2 (hsame _) ?_ (fun h => absurd (hrr ▸ h) hne)
      rw [hrr]; rfl
  · have hkk : k = l.length := by simp only [Es.len] at hlt; omega
    have hrl : (Es.runL c l).2 = 0 := by rw [hkk, List.take_length] at hrun; exact hrun
    refine hk k _ _ _ hk2 hJk ?_ (fun _ => hkk)
    rw [hrl]; rfl
end Tryd
end Go.Proofs
end
