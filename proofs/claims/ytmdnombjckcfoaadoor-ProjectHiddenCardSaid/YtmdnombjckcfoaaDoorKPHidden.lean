/-
  For every input ProjectHidden returns true, and the arguments read as they did. No condition.
-/
import Derived.Test.YtmdnombjckcfoaaDoorBi
set_option linter.unusedSimpArgs false
set_option linter.unusedVariables false
section
namespace Go.Proofs
open Go Go.Abs
set_option linter.unusedSimpArgs false
set_option linter.unusedVariables false
set_option maxRecDepth 10000
@[go_sem] theorem aslice_slD {α : Type} [Inhabited α] (k' k : Nat) (f : α → Nat → D) (l : List α) (lo hi : Option D) (s : S) (K : D → S → Prop) : ASliceL (some k') (slD k f l) lo hi s K =
    ((k = k' ∧ 0 ≤ bnd lo 0 ∧ bnd lo 0 ≤ bnd hi l.length ∧ bnd hi l.length ≤ l.length) ∧ K (.sl k ((bnd hi l.length).toNat - (bnd lo 0).toNat) (shift (bnd lo 0).toNat (rowsOf f l))) s) := nr rfl
namespace Tryd
theorem wk_sl {k n m : Nat} {row row' : Nat → Nat → D} (hn : n = m) (h : ∀ i j, i < n → j < k → row i j = row' i j) (c : Cfg) (v : Value) (hr : c.Rep (.sl k n row) v) : c.Rep (.sl k m row') v := by
  subst hn
  cases hr with
  | sl _ _ _ b off cap g hb hc hg ho hr => exact .sl k n row' b off cap g hb hc hg ho (fun i j hi hj => by rw [← h i j hi hj]; exact hr i j hi hj)
  | slnil => exact .slnil k row'
  | sl0 _ _ a cap => exact .sl0 k row' a cap
/-- The first elements of a list, as a part of the slice. -/
theorem wk_take (l : List Int) (n m : Nat) (hn : n = m) (hm : m ≤ l.length) (c : Cfg) (v : Value) (hr : c.Rep (.sl 1 n (shift 0 (rowsOf intC l))) v) : c.Rep (slD 1 intC (l.take m)) v := by
  refine wk_sl (by rw [hn, List.length_take]; omega) (fun i j hi hj => ?_) c v hr
  simp only [shift, rowsOf, Nat.zero_add]
  congr 1
  simp [List.getD, List.getElem?_take, hn ▸ hi]
theorem wk_drop (l : List Int) (n m : Nat) (hn : n = l.length - m) (c : Cfg) (v : Value) (hr : c.Rep (.sl 1 n (shift m (rowsOf intC l))) v) : c.Rep (slD 1 intC (l.drop m)) v := by
  refine wk_sl (by rw [hn, List.length_drop]) (fun i j hi hj => ?_) c v hr
  simp only [shift, rowsOf]
  congr 1
  simp [List.getD, List.getElem?_drop]
theorem pbegin_spec (c : Es.Contract) (l : List Int) (p k : Int) (hf : Es.Fits c) (hl : l.length ≤ maxLen) (hk : 0 ≤ k ∧ k ≤ 255) : APure M 4 [conD c, slD 1 intC l, .v (.int .i64 p), .v (.int .u8 k)] (.v (.bool true)) := by
  refine pure_of gpu func4 rfl results4 ntmps4 (by simp) ⟨pu_conD _, pu_slD pu_intC _, .v _, .v _, trivial⟩ ?_
  intro b
  simp only [go_sem, ↓reduceIte, decide_eq_true_eq, reduceCtorEq, Nat.reduceEqDiff, Nat.reduceLT, Nat.reduceLeDiff, Nat.reduceAdd, Nat.reduceSub, Nat.reduceMul, Nat.reduceGT, Int.reduceNeg, Int.reduceToNat, and_true, true_and, and_false, false_and, List.getElem?_toArray, List.getElem?_cons_zero, List.getElem?_cons_succ, List.cons_append, List.nil_append, if_true, if_false, Option.getD_some, Option.isSome_some, Bool.false_eq_true, List.append_nil, List.drop_zero, List.drop_succ_cons, Bool.cond_false_right, Bool.cond_false_left, Bool.cond_true_left, Bool.cond_true_right, ite_self, Bool.not_true, Bool.not_false, cond_true, cond_false, List.size_toArray, implies_true, true_implies, false_implies, List.all_cons, List.all_nil, List.nodup_cons, List.nodup_nil, List.mem_cons, List.not_mem_nil, or_false, false_or, not_false_eq_true, decide_true, Bool.and_true, Bool.and_self]
  repeat' (first | ((with_reducible refine call_at M_P M_G (headP_spec) ?_); simp only [go_sem, ↓reduceIte, decide_eq_true_eq, reduceCtorEq, Nat.reduceEqDiff, Nat.reduceLT, Nat.reduceLeDiff, Nat.reduceAdd, Nat.reduceSub, Nat.reduceMul, Nat.reduceGT, Int.reduceNeg, Int.reduceToNat, and_true, true_and, and_false, false_and, List.getElem?_toArray, List.getElem?_cons_zero, List.getElem?_cons_succ, List.cons_append, List.nil_append, if_true, if_false, Option.getD_some, Option.isSome_some, Bool.false_eq_true, List.append_nil, List.drop_zero, List.drop_succ_cons, Bool.cond_false_right, Bool.cond_false_left, Bool.cond_true_left, Bool.cond_true_right, ite_self, Bool.not_true, Bool.not_false, cond_true, cond_false, List.size_toArray, implies_true, true_implies, false_implies, List.all_cons, List.all_nil, List.nodup_cons, List.nodup_nil, List.mem_cons, List.not_mem_nil, or_false, false_or, not_false_eq_true, decide_true, Bool.and_true, Bool.and_self]) | ((with_reducible refine call_at M_P M_G (small_spec c 40 hf) ?_); simp only [go_sem, ↓reduceIte, decide_eq_true_eq, reduceCtorEq, Nat.reduceEqDiff, Nat.reduceLT, Nat.reduceLeDiff, Nat.reduceAdd, Nat.reduceSub, Nat.reduceMul, Nat.reduceGT, Int.reduceNeg, Int.reduceToNat, and_true, true_and, and_false, false_and, List.getElem?_toArray, List.getElem?_cons_zero, List.getElem?_cons_succ, List.cons_append, List.nil_append, if_true, if_false, Option.getD_some, Option.isSome_some, Bool.false_eq_true, List.append_nil, List.drop_zero, List.drop_succ_cons, Bool.cond_false_right, Bool.cond_false_left, Bool.cond_true_left, Bool.cond_true_right, ite_self, Bool.not_true, Bool.not_false, cond_true, cond_false, List.size_toArray, implies_true, true_implies, false_implies, List.all_cons, List.all_nil, List.nodup_cons, List.nodup_nil, List.mem_cons, List.not_mem_nil, or_false, false_or, not_false_eq_true, decide_true, Bool.and_true, Bool.and_self]) | (with_reducible refine And.intro ?_ ?_) | ((with_reducible refine ite_cases ?_ ?_) <;> intro _))
  all_goals first
    | trivial
    | skip
  have hl60 : l.length ≤ 60 := by
    have h : ¬ 60 < Es.len l := ‹_›
    simp only [Es.len] at h; omega
  refine call_at M_P M_G (view_spec c l p hf (by omega)) ?_
  simp only [go_sem, ↓reduceIte, decide_eq_true_eq, reduceCtorEq, Nat.reduceEqDiff, Nat.reduceLT, Nat.reduceLeDiff, Nat.reduceAdd, Nat.reduceSub, Nat.reduceMul, Nat.reduceGT, Int.reduceNeg, Int.reduceToNat, and_true, true_and, and_false, false_and, List.getElem?_toArray, List.getElem?_cons_zero, List.getElem?_cons_succ, List.cons_append, List.nil_append, if_true, if_false, Option.getD_some, Option.isSome_some, Bool.false_eq_true, List.append_nil, List.drop_zero, List.drop_succ_cons, Bool.cond_false_right, Bool.cond_false_left, Bool.cond_true_left, Bool.cond_true_right, ite_self, Bool.not_true, Bool.not_false, cond_true, cond_false, List.size_toArray, implies_true, true_implies, false_implies, List.all_cons, List.all_nil, List.nodup_cons, List.nodup_nil, List.mem_cons, List.not_mem_nil, or_false, false_or, not_false_eq_true, decide_true, Bool.and_true, Bool.and_self]
  refine ite_cases (fun he => ?_) (fun he => ?_)
  · trivial
  have h0 : (Es.view c l p).2 = 0 := by simpa using he
  obtain ⟨m, hm, hml⟩ : ∃ m : Nat, k.tmod (Es.len l + 1) = (m : Int) ∧ m ≤ l.length := by
    have h1 := Int.tmod_nonneg (Es.len l + 1) hk.1
    have h2 := Int.tmod_lt_of_pos k (show 0 < Es.len l + 1 by simp only [Es.len]; omega)
    exact ⟨(k.tmod (Es.len l + 1)).toNat, by omega, by simp only [Es.len] at h1 h2 ⊢; omega⟩
  obtain ⟨b1, b2, b3⟩ := Es.law_begin h0 (by omega) m
  rw [wrap_i64 (Es.len l + 1) (by simp only [Es.len]; omega) (by simp only [Es.len]; omega), wrap_i64 k (by omega) (by omega), hm]
  refine ⟨by simp only [Es.len]; omega, ?_⟩
  refine awp_plan ((.op 0 (.op 1 (.op 2 (.op 4 (.op 3 (.op 5 (.op 6 (.op 7 (.op 8 (.op 9 (.op 10 .done)))))))))))) [] mix (by kernel_rfl) ?_
  simp only [go_sem, ↓reduceIte, decide_eq_true_eq, reduceCtorEq, Nat.reduceEqDiff, Nat.reduceLT, Nat.reduceLeDiff, Nat.reduceAdd, Nat.reduceSub, Nat.reduceMul, Nat.reduceGT, Int.reduceNeg, Int.reduceToNat, and_true, true_and, and_false, false_and, List.getElem?_toArray, List.getElem?_cons_zero, List.getElem?_cons_succ, List.cons_append, List.nil_append, if_true, if_false, Option.getD_some, Option.isSome_some, Bool.false_eq_true, List.append_nil, List.drop_zero, List.drop_succ_cons, Bool.cond_false_right, Bool.cond_false_left, Bool.cond_true_left, Bool.cond_true_right, ite_self, Bool.not_true, Bool.not_false, cond_true, cond_false, List.size_toArray, implies_true, true_implies, false_implies, List.all_cons, List.all_nil, List.nodup_cons, List.nodup_nil, List.mem_cons, List.not_mem_nil, or_false, false_or, not_false_eq_true, decide_true, Bool.and_true, Bool.and_self]
  refine ⟨⟨by omega, by omega⟩, ?_⟩
  refine acall_weak (args' := [conD c, slD 1 intC (l.take m), .v (.int .i64 p)]) ⟨fun _ _ h => h, wk_take l _ m (by simp) hml, fun _ _ h => h, trivial⟩ ?_
  refine call_at M_P M_G (view_spec c (l.take m) p hf (by rw [List.length_take]; omega)) ?_
  simp only [go_sem, ↓reduceIte, decide_eq_true_eq, reduceCtorEq, Nat.reduceEqDiff, Nat.reduceLT, Nat.reduceLeDiff, Nat.reduceAdd, Nat.reduceSub, Nat.reduceMul, Nat.reduceGT, Int.reduceNeg, Int.reduceToNat, and_true, true_and, and_false, false_and, List.getElem?_toArray, List.getElem?_cons_zero, List.getElem?_cons_succ, List.cons_append, List.nil_append, if_true, if_false, Option.getD_some, Option.isSome_some, Bool.false_eq_true, List.append_nil, List.drop_zero, List.drop_succ_cons, Bool.cond_false_right, Bool.cond_false_left, Bool.cond_true_left, Bool.cond_true_right, ite_self, Bool.not_true, Bool.not_false, cond_true, cond_false, List.size_toArray, implies_true, true_implies, false_implies, List.all_cons, List.all_nil, List.nodup_cons, List.nodup_nil, List.mem_cons, List.not_mem_nil, or_false, false_or, not_false_eq_true, decide_true, Bool.and_true, Bool.and_self, b1]
  rw [if_pos (by decide)]
  refine ite_cases (fun hle => ?_) (fun hle => ?_)
  · have hle' : (Es.view c (l.take m) p).1.length ≤ (Es.view c l p).1.length := b2
    refine ⟨⟨by first | omega | (simp only [Es.len]; omega), by first | omega | (simp only [Es.len]; omega)⟩, ?_⟩
    refine acall_weak (args' := [slD 1 intC (Es.view c (l.take m) p).1, slD 1 intC ((Es.view c l p).1.take (Es.view c (l.take m) p).1.length)]) ⟨fun _ _ h => h, wk_take _ _ _ (by simp [Es.len]) hle', trivial⟩ ?_
    have hvl : (Es.view c (l.take m) p).1.length ≤ 1000000 := by
      unfold Es.view at b1 ⊢
      obtain ⟨_, _, _, _, g5, g6⟩ := Es.joint_ok b1
      rw [g6]
      have := Es.kept_len (c := c) (ps := [p]) (l := l.take m) (p := Es.start c) (by rw [← Es.runL_goes]; exact g5)
      rw [List.length_take] at this; omega
    refine call_at M_P M_G (ints_spec _ _ hvl) ?_
    simp only [go_sem, ↓reduceIte, decide_eq_true_eq, reduceCtorEq, Nat.reduceEqDiff, Nat.reduceLT, Nat.reduceLeDiff, Nat.reduceAdd, Nat.reduceSub, Nat.reduceMul, Nat.reduceGT, Int.reduceNeg, Int.reduceToNat, and_true, true_and, and_false, false_and, List.getElem?_toArray, List.getElem?_cons_zero, List.getElem?_cons_succ, List.cons_append, List.nil_append, if_true, if_false, Option.getD_some, Option.isSome_some, Bool.false_eq_true, List.append_nil, List.drop_zero, List.drop_succ_cons, Bool.cond_false_right, Bool.cond_false_left, Bool.cond_true_left, Bool.cond_true_right, ite_self, Bool.not_true, Bool.not_false, cond_true, cond_false, List.size_toArray, implies_true, true_implies, false_implies, List.all_cons, List.all_nil, List.nodup_cons, List.nodup_nil, List.mem_cons, List.not_mem_nil, or_false, false_or, not_false_eq_true, decide_true, Bool.and_true, Bool.and_self]
    rw [← b3]
    simp [Es.ints]
  · exact absurd (by simp only [Es.len]; omega) hle
end Tryd
end Go.Proofs
end
section
namespace Go.Proofs
open Go Go.Abs
set_option linter.unusedSimpArgs false
set_option linter.unusedVariables false
set_option maxRecDepth 10000
namespace Tryd
theorem joint_len (c : Es.Contract) (l ps : List Int) : (Es.joint c l ps).1.length ≤ l.length := by
  by_cases h : (Es.joint c l ps).2 = 0
  · obtain ⟨_, _, _, _, g5, g6⟩ := Es.joint_ok h
    rw [g6]; exact Es.kept_len (by rw [← Es.runL_goes]; exact g5)
  · rw [Es.joint_nil h]; simp
def upP (k : Nat) : List Int := (List.range k).map Int.ofNat
theorem upP_succ (k : Nat) : upP (k + 1) = upP k ++ [(k : Int)] := by simp [upP, List.range_succ]
theorem upP_length (k : Nat) : (upP k).length = k := by simp [upP]
theorem out_call {M : Ctx} {g : FuncId} {x y d : D} {n0 nx : Nat} {o : St} {L : List Int} {K : D → S → Prop} (h : OutIs n0 ⟨o, nx⟩ d L) (hk : ∀ o', (∀ f j, f ≤ n0 → o' f j = o f j) → ACall M g [x, y, slD 1 intC L] ⟨o', nx⟩ K) : ACall M g [x, y, d] ⟨o, nx⟩ K := by
  rcases h with ⟨rfl, rfl⟩ | ⟨f, cl, rfl, h1, h2, h3, h4⟩
  · exact acall_weak (args' := [x, y, slD 1 intC []]) ⟨fun _ _ h => h, fun _ _ h => h, wk_nil _ _, trivial⟩ (hk o fun _ _ _ => rfl)
  · refine acall_freeze (f := f) (k := 1) (n := L.length) (cell' := rowsOf intC L) (args' := [x, y, slD 1 intC L]) h3 (fun r j hr hj => ?_) ⟨.inl rfl, .inl rfl, .inr ⟨rfl, rfl⟩, trivial⟩ (hk (St.set o f 0 none) fun f' j hf => set_ne (by omega))
    obtain rfl : j = 0 := by omega
    rw [h4 r hr]; rfl
set_option maxHeartbeats 1000000 in
theorem pall_spec (c : Es.Contract) (l ps : List Int) (hf : Es.Fits c) (hl : l.length ≤ maxLen) (hp : ps.length ≤ maxLen) : APure M 3 [conD c, slD 1 intC l, slD 1 intC ps] (.v (.bool true)) := by
  refine pure_of gpu func3 rfl results3 ntmps3 (by simp) ⟨pu_conD _, pu_slD pu_intC _, pu_slD pu_intC _, trivial⟩ ?_
  intro b
  simp only [go_sem, ↓reduceIte, decide_eq_true_eq, reduceCtorEq, Nat.reduceEqDiff, Nat.reduceLT, Nat.reduceLeDiff, Nat.reduceAdd, Nat.reduceSub, Nat.reduceMul, Nat.reduceGT, Int.reduceNeg, Int.reduceToNat, and_true, true_and, and_false, false_and, List.getElem?_toArray, List.getElem?_cons_zero, List.getElem?_cons_succ, List.cons_append, List.nil_append, if_true, if_false, Option.getD_some, Option.isSome_some, Bool.false_eq_true, List.append_nil, List.drop_zero, List.drop_succ_cons, Bool.cond_false_right, Bool.cond_false_left, Bool.cond_true_left, Bool.cond_true_right, ite_self, Bool.not_true, Bool.not_false, cond_true, cond_false, List.size_toArray, implies_true, true_implies, false_implies, List.all_cons, List.all_nil, List.nodup_cons, List.nodup_nil, List.mem_cons, List.not_mem_nil, or_false, false_or, not_false_eq_true, decide_true, Bool.and_true, Bool.and_self]
  repeat' (first | ((with_reducible refine call_at M_P M_G (headP_spec) ?_); simp only [go_sem, ↓reduceIte, decide_eq_true_eq, reduceCtorEq, Nat.reduceEqDiff, Nat.reduceLT, Nat.reduceLeDiff, Nat.reduceAdd, Nat.reduceSub, Nat.reduceMul, Nat.reduceGT, Int.reduceNeg, Int.reduceToNat, and_true, true_and, and_false, false_and, List.getElem?_toArray, List.getElem?_cons_zero, List.getElem?_cons_succ, List.cons_append, List.nil_append, if_true, if_false, Option.getD_some, Option.isSome_some, Bool.false_eq_true, List.append_nil, List.drop_zero, List.drop_succ_cons, Bool.cond_false_right, Bool.cond_false_left, Bool.cond_true_left, Bool.cond_true_right, ite_self, Bool.not_true, Bool.not_false, cond_true, cond_false, List.size_toArray, implies_true, true_implies, false_implies, List.all_cons, List.all_nil, List.nodup_cons, List.nodup_nil, List.mem_cons, List.not_mem_nil, or_false, false_or, not_false_eq_true, decide_true, Bool.and_true, Bool.and_self]) | ((with_reducible refine call_at M_P M_G (small_spec c 40 hf) ?_); simp only [go_sem, ↓reduceIte, decide_eq_true_eq, reduceCtorEq, Nat.reduceEqDiff, Nat.reduceLT, Nat.reduceLeDiff, Nat.reduceAdd, Nat.reduceSub, Nat.reduceMul, Nat.reduceGT, Int.reduceNeg, Int.reduceToNat, and_true, true_and, and_false, false_and, List.getElem?_toArray, List.getElem?_cons_zero, List.getElem?_cons_succ, List.cons_append, List.nil_append, if_true, if_false, Option.getD_some, Option.isSome_some, Bool.false_eq_true, List.append_nil, List.drop_zero, List.drop_succ_cons, Bool.cond_false_right, Bool.cond_false_left, Bool.cond_true_left, Bool.cond_true_right, ite_self, Bool.not_true, Bool.not_false, cond_true, cond_false, List.size_toArray, implies_true, true_implies, false_implies, List.all_cons, List.all_nil, List.nodup_cons, List.nodup_nil, List.mem_cons, List.not_mem_nil, or_false, false_or, not_false_eq_true, decide_true, Bool.and_true, Bool.and_self]) | (with_reducible refine And.intro ?_ ?_) | ((with_reducible refine ite_cases ?_ ?_) <;> intro _))
  all_goals first
    | trivial
    | skip
  have hl60 : l.length ≤ 60 := by
    have h : decide (60 < Es.len l) = false := ‹_›
    have := of_decide_eq_false h
    simp only [Es.len] at this; omega
  have hps : ps.length ≤ 12 := by
    have h : decide (12 < Es.len ps) = false := ‹_›
    have := of_decide_eq_false h
    simp only [Es.len] at this; omega
  have hpar : c.parties ≤ 12 := by
    have h : ¬ 12 < c.parties := ‹_›
    omega
  refine awp_count0 c.parties.toNat (fun e0 s0 k e st => (e 1 = e0 1 ∧ e 2 = e0 2 ∧ e 3 = e0 3 ∧ e 7 = e0 7) ∧ e 9 = .v (.int .i64 k) ∧ OutIs 0 st (e 8) (upP k) ∧ st.o 0 0 = s0.o 0 0 ∧ 1 ≤ st.nx) ⟨⟨rfl, rfl, rfl, rfl⟩, ?_, ?_, rfl, Nat.le_refl _⟩ ?_
  · simp only [go_sem, ↓reduceIte, decide_eq_true_eq, reduceCtorEq, Nat.reduceEqDiff, Nat.reduceLT, Nat.reduceLeDiff, Nat.reduceAdd, Nat.reduceSub, Nat.reduceMul, Nat.reduceGT, Int.reduceNeg, Int.reduceToNat, and_true, true_and, and_false, false_and, List.getElem?_toArray, List.getElem?_cons_zero, List.getElem?_cons_succ, List.cons_append, List.nil_append, if_true, if_false, Option.getD_some, Option.isSome_some, Bool.false_eq_true, List.append_nil, List.drop_zero, List.drop_succ_cons, Bool.cond_false_right, Bool.cond_false_left, Bool.cond_true_left, Bool.cond_true_right, ite_self, Bool.not_true, Bool.not_false, cond_true, cond_false, List.size_toArray, implies_true, true_implies, false_implies, List.all_cons, List.all_nil, List.nodup_cons, List.nodup_nil, List.mem_cons, List.not_mem_nil, or_false, false_or, not_false_eq_true, decide_true, Bool.and_true, Bool.and_self]; rfl
  · simp only [go_sem, ↓reduceIte, decide_eq_true_eq, reduceCtorEq, Nat.reduceEqDiff, Nat.reduceLT, Nat.reduceLeDiff, Nat.reduceAdd, Nat.reduceSub, Nat.reduceMul, Nat.reduceGT, Int.reduceNeg, Int.reduceToNat, and_true, true_and, and_false, false_and, List.getElem?_toArray, List.getElem?_cons_zero, List.getElem?_cons_succ, List.cons_append, List.nil_append, if_true, if_false, Option.getD_some, Option.isSome_some, Bool.false_eq_true, List.append_nil, List.drop_zero, List.drop_succ_cons, Bool.cond_false_right, Bool.cond_false_left, Bool.cond_true_left, Bool.cond_true_right, ite_self, Bool.not_true, Bool.not_false, cond_true, cond_false, List.size_toArray, implies_true, true_implies, false_implies, List.all_cons, List.all_nil, List.nodup_cons, List.nodup_nil, List.mem_cons, List.not_mem_nil, or_false, false_or, not_false_eq_true, decide_true, Bool.and_true, Bool.and_self]; exact .inl ⟨rfl, rfl⟩
  rintro k e ⟨o, nx⟩ hk ⟨⟨a1, a2, a3, a7⟩, a9, hO, g0, hnx⟩
  simp only [go_sem, ↓reduceIte, decide_eq_true_eq, reduceCtorEq, Nat.reduceEqDiff, Nat.reduceLT, Nat.reduceLeDiff, Nat.reduceAdd, Nat.reduceSub, Nat.reduceMul, Nat.reduceGT, Int.reduceNeg, Int.reduceToNat, and_true, true_and, and_false, false_and, List.getElem?_toArray, List.getElem?_cons_zero, List.getElem?_cons_succ, List.cons_append, List.nil_append, if_true, if_false, Option.getD_some, Option.isSome_some, Bool.false_eq_true, List.append_nil, List.drop_zero, List.drop_succ_cons, Bool.cond_false_right, Bool.cond_false_left, Bool.cond_true_left, Bool.cond_true_right, ite_self, Bool.not_true, Bool.not_false, cond_true, cond_false, List.size_toArray, implies_true, true_implies, false_implies, List.all_cons, List.all_nil, List.nodup_cons, List.nodup_nil, List.mem_cons, List.not_mem_nil, or_false, false_or, not_false_eq_true, decide_true, Bool.and_true, Bool.and_self] at a1 a2 a3 a7 g0
  simp only at hnx
  simp only [go_sem, ↓reduceIte, decide_eq_true_eq, reduceCtorEq, Nat.reduceEqDiff, Nat.reduceLT, Nat.reduceLeDiff, Nat.reduceAdd, Nat.reduceSub, Nat.reduceMul, Nat.reduceGT, Int.reduceNeg, Int.reduceToNat, and_true, true_and, and_false, false_and, List.getElem?_toArray, List.getElem?_cons_zero, List.getElem?_cons_succ, List.cons_append, List.nil_append, if_true, if_false, Option.getD_some, Option.isSome_some, Bool.false_eq_true, List.append_nil, List.drop_zero, List.drop_succ_cons, Bool.cond_false_right, Bool.cond_false_left, Bool.cond_true_left, Bool.cond_true_right, ite_self, Bool.not_true, Bool.not_false, cond_true, cond_false, List.size_toArray, implies_true, true_implies, false_implies, List.all_cons, List.all_nil, List.nodup_cons, List.nodup_nil, List.mem_cons, List.not_mem_nil, or_false, false_or, not_false_eq_true, decide_true, Bool.and_true, Bool.and_self, a1, a2, a3, a7, a9, g0]
  refine ite_cases (fun hlt => ?_) (fun hlt => ?_)
  · have hlt' : k < c.parties.toNat := by omega
    have e0 : ∀ {a b : Nat}, a ≠ b → (a = b) = False := fun h => by simp [h]
    rcases hO with ⟨hn, h8⟩ | ⟨f, cl, h8, hf1, hf2, hf3, hf4⟩
    · simp only [go_sem, ↓reduceIte, decide_eq_true_eq, reduceCtorEq, Nat.reduceEqDiff, Nat.reduceLT, Nat.reduceLeDiff, Nat.reduceAdd, Nat.reduceSub, Nat.reduceMul, Nat.reduceGT, Int.reduceNeg, Int.reduceToNat, and_true, true_and, and_false, false_and, List.getElem?_toArray, List.getElem?_cons_zero, List.getElem?_cons_succ, List.cons_append, List.nil_append, if_true, if_false, Option.getD_some, Option.isSome_some, Bool.false_eq_true, List.append_nil, List.drop_zero, List.drop_succ_cons, Bool.cond_false_right, Bool.cond_false_left, Bool.cond_true_left, Bool.cond_true_right, ite_self, Bool.not_true, Bool.not_false, cond_true, cond_false, List.size_toArray, implies_true, true_implies, false_implies, List.all_cons, List.all_nil, List.nodup_cons, List.nodup_nil, List.mem_cons, List.not_mem_nil, or_false, false_or, not_false_eq_true, decide_true, Bool.and_true, Bool.and_self, a1, a2, a3, a7, a9, g0, h8]
      refine ⟨hlt', ?_⟩
      simp only [go_sem, ↓reduceIte, decide_eq_true_eq, reduceCtorEq, Nat.reduceEqDiff, Nat.reduceLT, Nat.reduceLeDiff, Nat.reduceAdd, Nat.reduceSub, Nat.reduceMul, Nat.reduceGT, Int.reduceNeg, Int.reduceToNat, and_true, true_and, and_false, false_and, List.getElem?_toArray, List.getElem?_cons_zero, List.getElem?_cons_succ, List.cons_append, List.nil_append, if_true, if_false, Option.getD_some, Option.isSome_some, Bool.false_eq_true, List.append_nil, List.drop_zero, List.drop_succ_cons, Bool.cond_false_right, Bool.cond_false_left, Bool.cond_true_left, Bool.cond_true_right, ite_self, Bool.not_true, Bool.not_false, cond_true, cond_false, List.size_toArray, implies_true, true_implies, false_implies, List.all_cons, List.all_nil, List.nodup_cons, List.nodup_nil, List.mem_cons, List.not_mem_nil, or_false, false_or, not_false_eq_true, decide_true, Bool.and_true, Bool.and_self, a1, a2, a3, a7, a9, g0, h8]
      refine ⟨by rw [wrap_i64 _ (by omega) (by omega)]; simp, OutIs.mk' (by rw [upP_succ, hn]; rfl) (by omega) (by simp only; omega) set_eq ?_, by (repeat rw [if_neg (by omega)])⟩
      rw [upP_succ, hn]
      exact out_app (l := []) (fun r h => by simp at h) rfl
    · simp only at hf2 hf3
      have n1 : (f = nx) = False := e0 (by omega)
      simp only [go_sem, ↓reduceIte, decide_eq_true_eq, reduceCtorEq, Nat.reduceEqDiff, Nat.reduceLT, Nat.reduceLeDiff, Nat.reduceAdd, Nat.reduceSub, Nat.reduceMul, Nat.reduceGT, Int.reduceNeg, Int.reduceToNat, and_true, true_and, and_false, false_and, List.getElem?_toArray, List.getElem?_cons_zero, List.getElem?_cons_succ, List.cons_append, List.nil_append, if_true, if_false, Option.getD_some, Option.isSome_some, Bool.false_eq_true, List.append_nil, List.drop_zero, List.drop_succ_cons, Bool.cond_false_right, Bool.cond_false_left, Bool.cond_true_left, Bool.cond_true_right, ite_self, Bool.not_true, Bool.not_false, cond_true, cond_false, List.size_toArray, implies_true, true_implies, false_implies, List.all_cons, List.all_nil, List.nodup_cons, List.nodup_nil, List.mem_cons, List.not_mem_nil, or_false, false_or, not_false_eq_true, decide_true, Bool.and_true, Bool.and_self, a1, a2, a3, a7, a9, g0, h8, hf3, n1]
      have hup := upP_length k
      refine ⟨⟨by omega, by omega⟩, hlt', ?_⟩
      simp only [go_sem, ↓reduceIte, decide_eq_true_eq, reduceCtorEq, Nat.reduceEqDiff, Nat.reduceLT, Nat.reduceLeDiff, Nat.reduceAdd, Nat.reduceSub, Nat.reduceMul, Nat.reduceGT, Int.reduceNeg, Int.reduceToNat, and_true, true_and, and_false, false_and, List.getElem?_toArray, List.getElem?_cons_zero, List.getElem?_cons_succ, List.cons_append, List.nil_append, if_true, if_false, Option.getD_some, Option.isSome_some, Bool.false_eq_true, List.append_nil, List.drop_zero, List.drop_succ_cons, Bool.cond_false_right, Bool.cond_false_left, Bool.cond_true_left, Bool.cond_true_right, ite_self, Bool.not_true, Bool.not_false, cond_true, cond_false, List.size_toArray, implies_true, true_implies, false_implies, List.all_cons, List.all_nil, List.nodup_cons, List.nodup_nil, List.mem_cons, List.not_mem_nil, or_false, false_or, not_false_eq_true, decide_true, Bool.and_true, Bool.and_self, a1, a2, a3, a7, a9, g0, h8]
      refine ⟨by rw [wrap_i64 _ (by omega) (by omega)]; simp, OutIs.mk' (by rw [upP_succ, List.length_append]; rfl) (by omega) (by simp only; omega) set_eq ?_, by (repeat rw [if_neg (by omega)])⟩
      rw [upP_succ]
      exact out_app hf4 rfl
  · have hkk : k = c.parties.toNat := by omega
    subst hkk
    have hal : upP c.parties.toNat = Es.allP c.parties := rfl
    rw [hal] at hO
    refine out_call hO fun o' ho' => ?_
    have g1 := (ho' 0 0 (Nat.le_refl _)).trans g0
    have hall : (Es.allP c.parties).length ≤ 1000000 := by rw [← hal, upP_length]; omega
    have hj1 := joint_len c l (Es.allP c.parties)
    have hj2 := joint_len c l ps
    refine call_at M_P M_G (joint_spec c l (Es.allP c.parties) hf (by omega) hall) ?_
    simp only [go_sem, ↓reduceIte, decide_eq_true_eq, reduceCtorEq, Nat.reduceEqDiff, Nat.reduceLT, Nat.reduceLeDiff, Nat.reduceAdd, Nat.reduceSub, Nat.reduceMul, Nat.reduceGT, Int.reduceNeg, Int.reduceToNat, and_true, true_and, and_false, false_and, List.getElem?_toArray, List.getElem?_cons_zero, List.getElem?_cons_succ, List.cons_append, List.nil_append, if_true, if_false, Option.getD_some, Option.isSome_some, Bool.false_eq_true, List.append_nil, List.drop_zero, List.drop_succ_cons, Bool.cond_false_right, Bool.cond_false_left, Bool.cond_true_left, Bool.cond_true_right, ite_self, Bool.not_true, Bool.not_false, cond_true, cond_false, List.size_toArray, implies_true, true_implies, false_implies, List.all_cons, List.all_nil, List.nodup_cons, List.nodup_nil, List.mem_cons, List.not_mem_nil, or_false, false_or, not_false_eq_true, decide_true, Bool.and_true, Bool.and_self, a1, a2, a3, a7, a9, g1]
    refine ite_cases (fun he => ?_) (fun he => ?_)
    · have hne : (Es.joint c l (Es.allP c.parties)).2 ≠ 0 := by simpa using he
      rw [show (Es.joint c l (Es.allP c.parties)).1 = [] from Es.joint_nil hne]; rfl
    obtain ⟨w1, w2, w3⟩ := Es.law_all (c := c) (l := l) (by simpa using he)
    refine call_at M_P M_G (ints_spec _ _ (by omega)) ?_
    simp only [go_sem, ↓reduceIte, decide_eq_true_eq, reduceCtorEq, Nat.reduceEqDiff, Nat.reduceLT, Nat.reduceLeDiff, Nat.reduceAdd, Nat.reduceSub, Nat.reduceMul, Nat.reduceGT, Int.reduceNeg, Int.reduceToNat, and_true, true_and, and_false, false_and, List.getElem?_toArray, List.getElem?_cons_zero, List.getElem?_cons_succ, List.cons_append, List.nil_append, if_true, if_false, Option.getD_some, Option.isSome_some, Bool.false_eq_true, List.append_nil, List.drop_zero, List.drop_succ_cons, Bool.cond_false_right, Bool.cond_false_left, Bool.cond_true_left, Bool.cond_true_right, ite_self, Bool.not_true, Bool.not_false, cond_true, cond_false, List.size_toArray, implies_true, true_implies, false_implies, List.all_cons, List.all_nil, List.nodup_cons, List.nodup_nil, List.mem_cons, List.not_mem_nil, or_false, false_or, not_false_eq_true, decide_true, Bool.and_true, Bool.and_self, a1, a2, a3, a7, a9, g1]
    rw [w1, if_neg (by simp [Es.ints])]
    refine call_at M_P M_G (joint_spec c l ps hf (by omega) (by omega)) ?_
    simp only [go_sem, ↓reduceIte, decide_eq_true_eq, reduceCtorEq, Nat.reduceEqDiff, Nat.reduceLT, Nat.reduceLeDiff, Nat.reduceAdd, Nat.reduceSub, Nat.reduceMul, Nat.reduceGT, Int.reduceNeg, Int.reduceToNat, and_true, true_and, and_false, false_and, List.getElem?_toArray, List.getElem?_cons_zero, List.getElem?_cons_succ, List.cons_append, List.nil_append, if_true, if_false, Option.getD_some, Option.isSome_some, Bool.false_eq_true, List.append_nil, List.drop_zero, List.drop_succ_cons, Bool.cond_false_right, Bool.cond_false_left, Bool.cond_true_left, Bool.cond_true_right, ite_self, Bool.not_true, Bool.not_false, cond_true, cond_false, List.size_toArray, implies_true, true_implies, false_implies, List.all_cons, List.all_nil, List.nodup_cons, List.nodup_nil, List.mem_cons, List.not_mem_nil, or_false, false_or, not_false_eq_true, decide_true, Bool.and_true, Bool.and_self, a1, a2, a3, a7, a9, g1]
    refine awp_count0 ps.length (fun e0 s0 k e st => (e 1 = e0 1 ∧ e 2 = e0 2 ∧ e 3 = e0 3 ∧ e 7 = e0 7 ∧ e 12 = e0 12 ∧ e 13 = e0 13) ∧ e 14 = .v (.int .i64 k) ∧ st.o 0 0 = s0.o 0 0 ∧ 1 ≤ st.nx) ⟨⟨rfl, rfl, rfl, rfl, rfl, rfl⟩, ?_, rfl, hnx⟩ ?_
    · simp only [go_sem, ↓reduceIte, decide_eq_true_eq, reduceCtorEq, Nat.reduceEqDiff, Nat.reduceLT, Nat.reduceLeDiff, Nat.reduceAdd, Nat.reduceSub, Nat.reduceMul, Nat.reduceGT, Int.reduceNeg, Int.reduceToNat, and_true, true_and, and_false, false_and, List.getElem?_toArray, List.getElem?_cons_zero, List.getElem?_cons_succ, List.cons_append, List.nil_append, if_true, if_false, Option.getD_some, Option.isSome_some, Bool.false_eq_true, List.append_nil, List.drop_zero, List.drop_succ_cons, Bool.cond_false_right, Bool.cond_false_left, Bool.cond_true_left, Bool.cond_true_right, ite_self, Bool.not_true, Bool.not_false, cond_true, cond_false, List.size_toArray, implies_true, true_implies, false_implies, List.all_cons, List.all_nil, List.nodup_cons, List.nodup_nil, List.mem_cons, List.not_mem_nil, or_false, false_or, not_false_eq_true, decide_true, Bool.and_true, Bool.and_self]; rfl
    rintro i e2 ⟨o2, nx2⟩ hi ⟨⟨b1, b2, b3, b7, b12, b13⟩, b14, k0, hnx2⟩
    simp only [go_sem, ↓reduceIte, decide_eq_true_eq, reduceCtorEq, Nat.reduceEqDiff, Nat.reduceLT, Nat.reduceLeDiff, Nat.reduceAdd, Nat.reduceSub, Nat.reduceMul, Nat.reduceGT, Int.reduceNeg, Int.reduceToNat, and_true, true_and, and_false, false_and, List.getElem?_toArray, List.getElem?_cons_zero, List.getElem?_cons_succ, List.cons_append, List.nil_append, if_true, if_false, Option.getD_some, Option.isSome_some, Bool.false_eq_true, List.append_nil, List.drop_zero, List.drop_succ_cons, Bool.cond_false_right, Bool.cond_false_left, Bool.cond_true_left, Bool.cond_true_right, ite_self, Bool.not_true, Bool.not_false, cond_true, cond_false, List.size_toArray, implies_true, true_implies, false_implies, List.all_cons, List.all_nil, List.nodup_cons, List.nodup_nil, List.mem_cons, List.not_mem_nil, or_false, false_or, not_false_eq_true, decide_true, Bool.and_true, Bool.and_self, a1, a2, a3, a7, a9, g1] at b1 b2 b3 b7 b12 b13 k0
    simp only at hnx2
    have n2 : (0 = nx2) = False := by simp only [eq_iff_iff, iff_false]; omega
    simp only [go_sem, ↓reduceIte, decide_eq_true_eq, reduceCtorEq, Nat.reduceEqDiff, Nat.reduceLT, Nat.reduceLeDiff, Nat.reduceAdd, Nat.reduceSub, Nat.reduceMul, Nat.reduceGT, Int.reduceNeg, Int.reduceToNat, and_true, true_and, and_false, false_and, List.getElem?_toArray, List.getElem?_cons_zero, List.getElem?_cons_succ, List.cons_append, List.nil_append, if_true, if_false, Option.getD_some, Option.isSome_some, Bool.false_eq_true, List.append_nil, List.drop_zero, List.drop_succ_cons, Bool.cond_false_right, Bool.cond_false_left, Bool.cond_true_left, Bool.cond_true_right, ite_self, Bool.not_true, Bool.not_false, cond_true, cond_false, List.size_toArray, implies_true, true_implies, false_implies, List.all_cons, List.all_nil, List.nodup_cons, List.nodup_nil, List.mem_cons, List.not_mem_nil, or_false, false_or, not_false_eq_true, decide_true, Bool.and_true, Bool.and_self, b1, b2, b3, b7, b12, b13, b14, k0]
    refine ite_cases (fun hil => ?_) (fun hil => ?_)
    · have hil' : i < ps.length := Es.len_lt.1 hil
      refine awp_plan ((.op 0 (.op 1 (.op 2 (.op 3 (.op 4 (.op 5 (.op 6 (.op 7 (.op 8 (.op 9 (.op 10 (.op 11 .done))))))))))))) [] mix (by kernel_rfl) ?_
      simp only [go_sem, ↓reduceIte, decide_eq_true_eq, reduceCtorEq, Nat.reduceEqDiff, Nat.reduceLT, Nat.reduceLeDiff, Nat.reduceAdd, Nat.reduceSub, Nat.reduceMul, Nat.reduceGT, Int.reduceNeg, Int.reduceToNat, and_true, true_and, and_false, false_and, List.getElem?_toArray, List.getElem?_cons_zero, List.getElem?_cons_succ, List.cons_append, List.nil_append, if_true, if_false, Option.getD_some, Option.isSome_some, Bool.false_eq_true, List.append_nil, List.drop_zero, List.drop_succ_cons, Bool.cond_false_right, Bool.cond_false_left, Bool.cond_true_left, Bool.cond_true_right, ite_self, Bool.not_true, Bool.not_false, cond_true, cond_false, List.size_toArray, implies_true, true_implies, false_implies, List.all_cons, List.all_nil, List.nodup_cons, List.nodup_nil, List.mem_cons, List.not_mem_nil, or_false, false_or, not_false_eq_true, decide_true, Bool.and_true, Bool.and_self, b1, b2, b3, b7, b12, b13, b14, k0]
      refine ⟨⟨by omega, hil⟩, ?_⟩
      refine call_at M_P M_G (view_spec c l (Es.at_ ps (i : Int)) hf (by omega)) ?_
      simp only [go_sem, ↓reduceIte, decide_eq_true_eq, reduceCtorEq, Nat.reduceEqDiff, Nat.reduceLT, Nat.reduceLeDiff, Nat.reduceAdd, Nat.reduceSub, Nat.reduceMul, Nat.reduceGT, Int.reduceNeg, Int.reduceToNat, and_true, true_and, and_false, false_and, List.getElem?_toArray, List.getElem?_cons_zero, List.getElem?_cons_succ, List.cons_append, List.nil_append, if_true, if_false, Option.getD_some, Option.isSome_some, Bool.false_eq_true, List.append_nil, List.drop_zero, List.drop_succ_cons, Bool.cond_false_right, Bool.cond_false_left, Bool.cond_true_left, Bool.cond_true_right, ite_self, Bool.not_true, Bool.not_false, cond_true, cond_false, List.size_toArray, implies_true, true_implies, false_implies, List.all_cons, List.all_nil, List.nodup_cons, List.nodup_nil, List.mem_cons, List.not_mem_nil, or_false, false_or, not_false_eq_true, decide_true, Bool.and_true, Bool.and_self, b1, b2, b3, b7, b12, b13, b14, k0]
      refine awp_wf fun hw => ?_
      have hw0 : o2 nx2 0 = none := hw nx2 0 (Nat.le_refl _)
      refine awp_plan ((.op 0 (.op 1 (.op 2 (.op 3 (.op 4 (.op 5 (.op 6 (.op 7 (.op 8 (.op 9 (.op 10 (.op 11 (.op 12 .done)))))))))))))) [7] mix (by kernel_rfl) ?_
      simp only [go_sem, ↓reduceIte, decide_eq_true_eq, reduceCtorEq, Nat.reduceEqDiff, Nat.reduceLT, Nat.reduceLeDiff, Nat.reduceAdd, Nat.reduceSub, Nat.reduceMul, Nat.reduceGT, Int.reduceNeg, Int.reduceToNat, and_true, true_and, and_false, false_and, List.getElem?_toArray, List.getElem?_cons_zero, List.getElem?_cons_succ, List.cons_append, List.nil_append, if_true, if_false, Option.getD_some, Option.isSome_some, Bool.false_eq_true, List.append_nil, List.drop_zero, List.drop_succ_cons, Bool.cond_false_right, Bool.cond_false_left, Bool.cond_true_left, Bool.cond_true_right, ite_self, Bool.not_true, Bool.not_false, cond_true, cond_false, List.size_toArray, implies_true, true_implies, false_implies, List.all_cons, List.all_nil, List.nodup_cons, List.nodup_nil, List.mem_cons, List.not_mem_nil, or_false, false_or, not_false_eq_true, decide_true, Bool.and_true, Bool.and_self, b1, b2, b3, b7, b12, b13, b14, k0]
      refine ⟨⟨by omega, hil⟩, keeps_set hw0, ?_⟩
      refine acall_freeze (f := nx2) (k := 1) (n := 1) (cell' := rowsOf intC [Es.at_ ps (i : Int)]) (args' := [conD c, slD 1 intC l, slD 1 intC [Es.at_ ps (i : Int)]]) set_eq (fun r j hr hj => by
        obtain rfl : j = 0 := by omega
        obtain rfl : r = 0 := by omega
        rfl) ⟨.inl rfl, .inl rfl, .inr ⟨rfl, rfl⟩, trivial⟩ ?_
      refine call_at M_P M_G (joint_spec c l [Es.at_ ps (i : Int)] hf (by omega) (by simp)) ?_
      have hvl := joint_len c l [Es.at_ ps (i : Int)]
      simp only [go_sem, ↓reduceIte, decide_eq_true_eq, reduceCtorEq, Nat.reduceEqDiff, Nat.reduceLT, Nat.reduceLeDiff, Nat.reduceAdd, Nat.reduceSub, Nat.reduceMul, Nat.reduceGT, Int.reduceNeg, Int.reduceToNat, and_true, true_and, and_false, false_and, List.getElem?_toArray, List.getElem?_cons_zero, List.getElem?_cons_succ, List.cons_append, List.nil_append, if_true, if_false, Option.getD_some, Option.isSome_some, Bool.false_eq_true, List.append_nil, List.drop_zero, List.drop_succ_cons, Bool.cond_false_right, Bool.cond_false_left, Bool.cond_true_left, Bool.cond_true_right, ite_self, Bool.not_true, Bool.not_false, cond_true, cond_false, List.size_toArray, implies_true, true_implies, false_implies, List.all_cons, List.all_nil, List.nodup_cons, List.nodup_nil, List.mem_cons, List.not_mem_nil, or_false, false_or, not_false_eq_true, decide_true, Bool.and_true, Bool.and_self, Es.view, bne_self_eq_false, b1, b2, b3, b7, b12, b13, b14, k0]
      refine call_at M_P M_G (ints_spec _ _ (by omega)) ?_
      simp only [go_sem, ↓reduceIte, decide_eq_true_eq, reduceCtorEq, Nat.reduceEqDiff, Nat.reduceLT, Nat.reduceLeDiff, Nat.reduceAdd, Nat.reduceSub, Nat.reduceMul, Nat.reduceGT, Int.reduceNeg, Int.reduceToNat, and_true, true_and, and_false, false_and, List.getElem?_toArray, List.getElem?_cons_zero, List.getElem?_cons_succ, List.cons_append, List.nil_append, if_true, if_false, Option.getD_some, Option.isSome_some, Bool.false_eq_true, List.append_nil, List.drop_zero, List.drop_succ_cons, Bool.cond_false_right, Bool.cond_false_left, Bool.cond_true_left, Bool.cond_true_right, ite_self, Bool.not_true, Bool.not_false, cond_true, cond_false, List.size_toArray, implies_true, true_implies, false_implies, List.all_cons, List.all_nil, List.nodup_cons, List.nodup_nil, List.mem_cons, List.not_mem_nil, or_false, false_or, not_false_eq_true, decide_true, Bool.and_true, Bool.and_self, b1, b2, b3, b7, b12, b13, b14, k0]
      rw [if_pos (by simp [Es.ints])]
      by_cases hj : (Es.joint c l ps).2 = 0
      · have hpart := Es.law_parts hj (Es.at_mem hil') (by omega)
        obtain ⟨v1, v2⟩ := hpart
        unfold Es.view at v1 v2
        rw [if_pos (by simpa using hj), if_pos (by simpa using v1)]
        refine call_at M_P M_G (wIn_spec _ _ (by omega) (by omega)) ?_
        simp only [go_sem, ↓reduceIte, decide_eq_true_eq, reduceCtorEq, Nat.reduceEqDiff, Nat.reduceLT, Nat.reduceLeDiff, Nat.reduceAdd, Nat.reduceSub, Nat.reduceMul, Nat.reduceGT, Int.reduceNeg, Int.reduceToNat, and_true, true_and, and_false, false_and, List.getElem?_toArray, List.getElem?_cons_zero, List.getElem?_cons_succ, List.cons_append, List.nil_append, if_true, if_false, Option.getD_some, Option.isSome_some, Bool.false_eq_true, List.append_nil, List.drop_zero, List.drop_succ_cons, Bool.cond_false_right, Bool.cond_false_left, Bool.cond_true_left, Bool.cond_true_right, ite_self, Bool.not_true, Bool.not_false, cond_true, cond_false, List.size_toArray, implies_true, true_implies, false_implies, List.all_cons, List.all_nil, List.nodup_cons, List.nodup_nil, List.mem_cons, List.not_mem_nil, or_false, false_or, not_false_eq_true, decide_true, Bool.and_true, Bool.and_self, v2, b1, b2, b3, b7, b12, b13, b14, k0]
        refine ⟨hil', ?_⟩
        simp only [go_sem, ↓reduceIte, decide_eq_true_eq, reduceCtorEq, Nat.reduceEqDiff, Nat.reduceLT, Nat.reduceLeDiff, Nat.reduceAdd, Nat.reduceSub, Nat.reduceMul, Nat.reduceGT, Int.reduceNeg, Int.reduceToNat, and_true, true_and, and_false, false_and, List.getElem?_toArray, List.getElem?_cons_zero, List.getElem?_cons_succ, List.cons_append, List.nil_append, if_true, if_false, Option.getD_some, Option.isSome_some, Bool.false_eq_true, List.append_nil, List.drop_zero, List.drop_succ_cons, Bool.cond_false_right, Bool.cond_false_left, Bool.cond_true_left, Bool.cond_true_right, ite_self, Bool.not_true, Bool.not_false, cond_true, cond_false, List.size_toArray, implies_true, true_implies, false_implies, List.all_cons, List.all_nil, List.nodup_cons, List.nodup_nil, List.mem_cons, List.not_mem_nil, or_false, false_or, not_false_eq_true, decide_true, Bool.and_true, Bool.and_self, b1, b2, b3, b7, b12, b13, b14, k0]
        exact ⟨⟨a1.symm, a2.symm, a3.symm, a7.symm⟩, by rw [wrap_i64 _ (by omega) (by omega)]; simp, by rw [if_neg (by omega)]; exact g1.symm⟩
      · rw [if_neg (by simpa using hj)]
        refine ⟨hil', ?_⟩
        simp only [go_sem, ↓reduceIte, decide_eq_true_eq, reduceCtorEq, Nat.reduceEqDiff, Nat.reduceLT, Nat.reduceLeDiff, Nat.reduceAdd, Nat.reduceSub, Nat.reduceMul, Nat.reduceGT, Int.reduceNeg, Int.reduceToNat, and_true, true_and, and_false, false_and, List.getElem?_toArray, List.getElem?_cons_zero, List.getElem?_cons_succ, List.cons_append, List.nil_append, if_true, if_false, Option.getD_some, Option.isSome_some, Bool.false_eq_true, List.append_nil, List.drop_zero, List.drop_succ_cons, Bool.cond_false_right, Bool.cond_false_left, Bool.cond_true_left, Bool.cond_true_right, ite_self, Bool.not_true, Bool.not_false, cond_true, cond_false, List.size_toArray, implies_true, true_implies, false_implies, List.all_cons, List.all_nil, List.nodup_cons, List.nodup_nil, List.mem_cons, List.not_mem_nil, or_false, false_or, not_false_eq_true, decide_true, Bool.and_true, Bool.and_self, b1, b2, b3, b7, b12, b13, b14, k0]
        exact ⟨⟨a1.symm, a2.symm, a3.symm, a7.symm⟩, by rw [wrap_i64 _ (by omega) (by omega)]; simp, by rw [if_neg (by omega)]; exact g1.symm⟩
    · by_cases hj : (Es.joint c l ps).2 = 0
      · rw [if_pos (by simpa using hj)]
        refine call_at M_P M_G (wIn_spec _ _ (by omega) (by omega)) ?_
        simp only [go_sem, ↓reduceIte, decide_eq_true_eq, reduceCtorEq, Nat.reduceEqDiff, Nat.reduceLT, Nat.reduceLeDiff, Nat.reduceAdd, Nat.reduceSub, Nat.reduceMul, Nat.reduceGT, Int.reduceNeg, Int.reduceToNat, and_true, true_and, and_false, false_and, List.getElem?_toArray, List.getElem?_cons_zero, List.getElem?_cons_succ, List.cons_append, List.nil_append, if_true, if_false, Option.getD_some, Option.isSome_some, Bool.false_eq_true, List.append_nil, List.drop_zero, List.drop_succ_cons, Bool.cond_false_right, Bool.cond_false_left, Bool.cond_true_left, Bool.cond_true_right, ite_self, Bool.not_true, Bool.not_false, cond_true, cond_false, List.size_toArray, implies_true, true_implies, false_implies, List.all_cons, List.all_nil, List.nodup_cons, List.nodup_nil, List.mem_cons, List.not_mem_nil, or_false, false_or, not_false_eq_true, decide_true, Bool.and_true, Bool.and_self, b1, b2, b3, b7, b12, b13, b14, k0]
        rw [Es.law_within hj]; simp
      · have h1 := Es.law_err w2 w3 (by omega) hj
        rw [if_neg (by simpa using hj), h1]; simp
end Tryd
end Go.Proofs
end
section
namespace Go.Proofs
open Go Go.Abs
set_option linter.unusedSimpArgs false
set_option linter.unusedVariables false
set_option maxRecDepth 10000
namespace Tryd
theorem hid_cell (l : List Int) (i : Nat) (hi : i ≤ l.length) (a : Int) (c0 lit : Nat → Nat → D) (hlit : lit 0 0 = .v (.int .i64 a)) (n1 s n3 : Nat) (h1 : n1 = i) (h2 : s = i) (h3 : n3 = l.length - i) :
    ∀ r j, r < n1 + 1 + n3 → j < 1 → appC (appC (appC c0 0 (shift 0 (rowsOf intC l))) n1 lit) (n1 + 1) (shift s (rowsOf intC l)) r j = rowsOf intC (l.take i ++ [a] ++ l.drop i) r j := by
  subst h1 h2 h3
  intro r j hr hj
  obtain rfl : j = 0 := by omega
  have key : ∀ x : Int, (l.take s ++ [a] ++ l.drop s).getD r default = x → rowsOf intC (l.take s ++ [a] ++ l.drop s) r 0 = .v (.int .i64 x) := fun x hx => by
    show intC ((l.take s ++ [a] ++ l.drop s).getD r default) 0 = _
    rw [hx]; rfl
  have hlen : (l.take s).length = s := by rw [List.length_take]; omega
  by_cases hr1 : r < s
  · rw [key (l.getD r default) (by
      show ((l.take s ++ [a] ++ l.drop s)[r]?).getD default = (l[r]?).getD default
      rw [List.append_assoc, List.getElem?_append_left (by omega), List.getElem?_take_of_lt hr1])]
    simp only [appC, shift]
    rw [if_pos (by omega), if_pos hr1, if_neg (by omega), Nat.zero_add, Nat.sub_zero]; rfl
  · by_cases hr2 : r = s
    · subst hr2
      rw [key a (by simp [List.getD, List.getElem?_append, hlen])]
      simp only [appC, shift]
      rw [if_pos (by omega), if_neg (by omega), Nat.sub_self, hlit]
    · rw [key (l.getD (s + (r - (s + 1))) default) (by
        show ((l.take s ++ [a] ++ l.drop s)[r]?).getD default = (l[s + (r - (s + 1))]?).getD default
        have hl2 : (l.take s ++ [a]).length = s + 1 := by rw [List.length_append, hlen]; rfl
        rw [List.getElem?_append_right (by omega), hl2, List.getElem?_drop])]
      simp only [appC, shift]
      rw [if_neg (by omega)]; rfl
set_option maxHeartbeats 1000000 in
theorem phidden_spec (c : Es.Contract) (l : List Int) (p k a : Int) (hf : Es.Fits c) (hl : l.length ≤ maxLen) (hk : 0 ≤ k ∧ k ≤ 255) : APure M 7 [conD c, slD 1 intC l, .v (.int .i64 p), .v (.int .u8 k), .v (.int .i64 a)] (.v (.bool true)) := by
  refine pure_of gpu func7 rfl results7 ntmps7 (by simp) ⟨pu_conD _, pu_slD pu_intC _, .v _, .v _, .v _, trivial⟩ ?_
  intro b
  simp only [go_sem, ↓reduceIte, decide_eq_true_eq, reduceCtorEq, Nat.reduceEqDiff, Nat.reduceLT, Nat.reduceLeDiff, Nat.reduceAdd, Nat.reduceSub, Nat.reduceMul, Nat.reduceGT, Int.reduceNeg, Int.reduceToNat, and_true, true_and, and_false, false_and, List.getElem?_toArray, List.getElem?_cons_zero, List.getElem?_cons_succ, List.cons_append, List.nil_append, if_true, if_false, Option.getD_some, Option.isSome_some, Bool.false_eq_true, List.append_nil, List.drop_zero, List.drop_succ_cons, Bool.cond_false_right, Bool.cond_false_left, Bool.cond_true_left, Bool.cond_true_right, ite_self, Bool.not_true, Bool.not_false, cond_true, cond_false, List.size_toArray, implies_true, true_implies, false_implies, List.all_cons, List.all_nil, List.nodup_cons, List.nodup_nil, List.mem_cons, List.not_mem_nil, or_false, false_or, not_false_eq_true, decide_true, Bool.and_true, Bool.and_self]
  repeat' (first | ((with_reducible refine call_at M_P M_G (headP_spec) ?_); simp only [go_sem, ↓reduceIte, decide_eq_true_eq, reduceCtorEq, Nat.reduceEqDiff, Nat.reduceLT, Nat.reduceLeDiff, Nat.reduceAdd, Nat.reduceSub, Nat.reduceMul, Nat.reduceGT, Int.reduceNeg, Int.reduceToNat, and_true, true_and, and_false, false_and, List.getElem?_toArray, List.getElem?_cons_zero, List.getElem?_cons_succ, List.cons_append, List.nil_append, if_true, if_false, Option.getD_some, Option.isSome_some, Bool.false_eq_true, List.append_nil, List.drop_zero, List.drop_succ_cons, Bool.cond_false_right, Bool.cond_false_left, Bool.cond_true_left, Bool.cond_true_right, ite_self, Bool.not_true, Bool.not_false, cond_true, cond_false, List.size_toArray, implies_true, true_implies, false_implies, List.all_cons, List.all_nil, List.nodup_cons, List.nodup_nil, List.mem_cons, List.not_mem_nil, or_false, false_or, not_false_eq_true, decide_true, Bool.and_true, Bool.and_self]) | ((with_reducible refine call_at M_P M_G (small_spec c 40 hf) ?_); simp only [go_sem, ↓reduceIte, decide_eq_true_eq, reduceCtorEq, Nat.reduceEqDiff, Nat.reduceLT, Nat.reduceLeDiff, Nat.reduceAdd, Nat.reduceSub, Nat.reduceMul, Nat.reduceGT, Int.reduceNeg, Int.reduceToNat, and_true, true_and, and_false, false_and, List.getElem?_toArray, List.getElem?_cons_zero, List.getElem?_cons_succ, List.cons_append, List.nil_append, if_true, if_false, Option.getD_some, Option.isSome_some, Bool.false_eq_true, List.append_nil, List.drop_zero, List.drop_succ_cons, Bool.cond_false_right, Bool.cond_false_left, Bool.cond_true_left, Bool.cond_true_right, ite_self, Bool.not_true, Bool.not_false, cond_true, cond_false, List.size_toArray, implies_true, true_implies, false_implies, List.all_cons, List.all_nil, List.nodup_cons, List.nodup_nil, List.mem_cons, List.not_mem_nil, or_false, false_or, not_false_eq_true, decide_true, Bool.and_true, Bool.and_self]) | (with_reducible refine And.intro ?_ ?_) | ((with_reducible refine ite_cases ?_ ?_) <;> intro _))
  all_goals first
    | trivial
    | skip
  have hl60 : l.length ≤ 60 := by
    have h : decide (60 < Es.len l) = false := ‹_›
    have := of_decide_eq_false h
    simp only [Es.len] at this; omega
  have ha : 0 ≤ a := by
    have h : ¬ a < 0 := ‹_›
    omega
  refine call_at M_P M_G (view_spec c l p hf (by omega)) ?_
  simp only [go_sem, ↓reduceIte, decide_eq_true_eq, reduceCtorEq, Nat.reduceEqDiff, Nat.reduceLT, Nat.reduceLeDiff, Nat.reduceAdd, Nat.reduceSub, Nat.reduceMul, Nat.reduceGT, Int.reduceNeg, Int.reduceToNat, and_true, true_and, and_false, false_and, List.getElem?_toArray, List.getElem?_cons_zero, List.getElem?_cons_succ, List.cons_append, List.nil_append, if_true, if_false, Option.getD_some, Option.isSome_some, Bool.false_eq_true, List.append_nil, List.drop_zero, List.drop_succ_cons, Bool.cond_false_right, Bool.cond_false_left, Bool.cond_true_left, Bool.cond_true_right, ite_self, Bool.not_true, Bool.not_false, cond_true, cond_false, List.size_toArray, implies_true, true_implies, false_implies, List.all_cons, List.all_nil, List.nodup_cons, List.nodup_nil, List.mem_cons, List.not_mem_nil, or_false, false_or, not_false_eq_true, decide_true, Bool.and_true, Bool.and_self]
  refine ite_cases (fun he => ?_) (fun he => ?_)
  · trivial
  have h0 : (Es.view c l p).2 = 0 := by simpa using he
  obtain ⟨r1, r2, r3, r4, r5⟩ := Es.law_ownEnd h0
  have hvl := joint_len c l [p]
  obtain ⟨m, hm, hml⟩ : ∃ m : Nat, k.tmod (Es.len l + 1) = (m : Int) ∧ m ≤ l.length := by
    have h1 := Int.tmod_nonneg (Es.len l + 1) hk.1
    have h2 := Int.tmod_lt_of_pos k (show 0 < Es.len l + 1 by simp only [Es.len]; omega)
    exact ⟨(k.tmod (Es.len l + 1)).toNat, by omega, by simp only [Es.len] at h1 h2 ⊢; omega⟩
  rw [wrap_i64 (Es.len l + 1) (by simp only [Es.len]; omega) (by simp only [Es.len]; omega), wrap_i64 k (by omega) (by omega), hm]
  refine ⟨by simp only [Es.len]; omega, ?_⟩
  refine call_at M_P M_G (start_spec c hf) ?_
  simp only [go_sem, ↓reduceIte, decide_eq_true_eq, reduceCtorEq, Nat.reduceEqDiff, Nat.reduceLT, Nat.reduceLeDiff, Nat.reduceAdd, Nat.reduceSub, Nat.reduceMul, Nat.reduceGT, Int.reduceNeg, Int.reduceToNat, and_true, true_and, and_false, false_and, List.getElem?_toArray, List.getElem?_cons_zero, List.getElem?_cons_succ, List.cons_append, List.nil_append, if_true, if_false, Option.getD_some, Option.isSome_some, Bool.false_eq_true, List.append_nil, List.drop_zero, List.drop_succ_cons, Bool.cond_false_right, Bool.cond_false_left, Bool.cond_true_left, Bool.cond_true_right, ite_self, Bool.not_true, Bool.not_false, cond_true, cond_false, List.size_toArray, implies_true, true_implies, false_implies, List.all_cons, List.all_nil, List.nodup_cons, List.nodup_nil, List.mem_cons, List.not_mem_nil, or_false, false_or, not_false_eq_true, decide_true, Bool.and_true, Bool.and_self]
  refine awp_count0 m (fun e0 s0 k e st => (e 1 = e0 1 ∧ e 2 = e0 2 ∧ e 4 = e0 4 ∧ e 5 = e0 5 ∧ e 11 = e0 11 ∧ e 12 = e0 12 ∧ e 14 = e0 14 ∧ e 15 = e0 15) ∧ e 17 = .v (.int .i64 k) ∧ e 16 = .v (.int .i64 0) ∧ st.o 0 0 = s0.o 0 0 ∧ 2 ≤ st.nx ∧
      st.o 1 0 = some (.blk 4 1 40 (rowOf [.v (.int .i64 (Es.runL c (l.take k)).1.day), slD 1 intC (Es.runL c (l.take k)).1.holders, slD 1 booC (Es.runL c (l.take k)).1.used, slD 5 mrkC (Es.runL c (l.take k)).1.marks]))) ⟨⟨rfl, rfl, rfl, rfl, rfl, rfl, rfl, rfl⟩, ?_, ?_, rfl, Nat.le_refl _, ?_⟩ ?_
  · simp only [go_sem, ↓reduceIte, decide_eq_true_eq, reduceCtorEq, Nat.reduceEqDiff, Nat.reduceLT, Nat.reduceLeDiff, Nat.reduceAdd, Nat.reduceSub, Nat.reduceMul, Nat.reduceGT, Int.reduceNeg, Int.reduceToNat, and_true, true_and, and_false, false_and, List.getElem?_toArray, List.getElem?_cons_zero, List.getElem?_cons_succ, List.cons_append, List.nil_append, if_true, if_false, Option.getD_some, Option.isSome_some, Bool.false_eq_true, List.append_nil, List.drop_zero, List.drop_succ_cons, Bool.cond_false_right, Bool.cond_false_left, Bool.cond_true_left, Bool.cond_true_right, ite_self, Bool.not_true, Bool.not_false, cond_true, cond_false, List.size_toArray, implies_true, true_implies, false_implies, List.all_cons, List.all_nil, List.nodup_cons, List.nodup_nil, List.mem_cons, List.not_mem_nil, or_false, false_or, not_false_eq_true, decide_true, Bool.and_true, Bool.and_self]; rfl
  · simp only [go_sem, ↓reduceIte, decide_eq_true_eq, reduceCtorEq, Nat.reduceEqDiff, Nat.reduceLT, Nat.reduceLeDiff, Nat.reduceAdd, Nat.reduceSub, Nat.reduceMul, Nat.reduceGT, Int.reduceNeg, Int.reduceToNat, and_true, true_and, and_false, false_and, List.getElem?_toArray, List.getElem?_cons_zero, List.getElem?_cons_succ, List.cons_append, List.nil_append, if_true, if_false, Option.getD_some, Option.isSome_some, Bool.false_eq_true, List.append_nil, List.drop_zero, List.drop_succ_cons, Bool.cond_false_right, Bool.cond_false_left, Bool.cond_true_left, Bool.cond_true_right, ite_self, Bool.not_true, Bool.not_false, cond_true, cond_false, List.size_toArray, implies_true, true_implies, false_implies, List.all_cons, List.all_nil, List.nodup_cons, List.nodup_nil, List.mem_cons, List.not_mem_nil, or_false, false_or, not_false_eq_true, decide_true, Bool.and_true, Bool.and_self, r5]
  · simp only [go_sem, ↓reduceIte, decide_eq_true_eq, reduceCtorEq, Nat.reduceEqDiff, Nat.reduceLT, Nat.reduceLeDiff, Nat.reduceAdd, Nat.reduceSub, Nat.reduceMul, Nat.reduceGT, Int.reduceNeg, Int.reduceToNat, and_true, true_and, and_false, false_and, List.getElem?_toArray, List.getElem?_cons_zero, List.getElem?_cons_succ, List.cons_append, List.nil_append, if_true, if_false, Option.getD_some, Option.isSome_some, Bool.false_eq_true, List.append_nil, List.drop_zero, List.drop_succ_cons, Bool.cond_false_right, Bool.cond_false_left, Bool.cond_true_left, Bool.cond_true_right, ite_self, Bool.not_true, Bool.not_false, cond_true, cond_false, List.size_toArray, implies_true, true_implies, false_implies, List.all_cons, List.all_nil, List.nodup_cons, List.nodup_nil, List.mem_cons, List.not_mem_nil, or_false, false_or, not_false_eq_true, decide_true, Bool.and_true, Bool.and_self]; rfl
  rintro i e ⟨o, nx⟩ hi ⟨⟨a1, a2, a4, a5, a11, a12, a14, a15⟩, a17, a16, g0, hnx, g1⟩
  simp only [go_sem, ↓reduceIte, decide_eq_true_eq, reduceCtorEq, Nat.reduceEqDiff, Nat.reduceLT, Nat.reduceLeDiff, Nat.reduceAdd, Nat.reduceSub, Nat.reduceMul, Nat.reduceGT, Int.reduceNeg, Int.reduceToNat, and_true, true_and, and_false, false_and, List.getElem?_toArray, List.getElem?_cons_zero, List.getElem?_cons_succ, List.cons_append, List.nil_append, if_true, if_false, Option.getD_some, Option.isSome_some, Bool.false_eq_true, List.append_nil, List.drop_zero, List.drop_succ_cons, Bool.cond_false_right, Bool.cond_false_left, Bool.cond_true_left, Bool.cond_true_right, ite_self, Bool.not_true, Bool.not_false, cond_true, cond_false, List.size_toArray, implies_true, true_implies, false_implies, List.all_cons, List.all_nil, List.nodup_cons, List.nodup_nil, List.mem_cons, List.not_mem_nil, or_false, false_or, not_false_eq_true, decide_true, Bool.and_true, Bool.and_self] at a1 a2 a4 a5 a11 a12 a14 a15 g0
  simp only at g1 hnx
  have hsf := Es.sfits_run c (l.take i)
  have hrun := Es.run_take r1 i
  simp only [go_sem, ↓reduceIte, decide_eq_true_eq, reduceCtorEq, Nat.reduceEqDiff, Nat.reduceLT, Nat.reduceLeDiff, Nat.reduceAdd, Nat.reduceSub, Nat.reduceMul, Nat.reduceGT, Int.reduceNeg, Int.reduceToNat, and_true, true_and, and_false, false_and, List.getElem?_toArray, List.getElem?_cons_zero, List.getElem?_cons_succ, List.cons_append, List.nil_append, if_true, if_false, Option.getD_some, Option.isSome_some, Bool.false_eq_true, List.append_nil, List.drop_zero, List.drop_succ_cons, Bool.cond_false_right, Bool.cond_false_left, Bool.cond_true_left, Bool.cond_true_right, ite_self, Bool.not_true, Bool.not_false, cond_true, cond_false, List.size_toArray, implies_true, true_implies, false_implies, List.all_cons, List.all_nil, List.nodup_cons, List.nodup_nil, List.mem_cons, List.not_mem_nil, or_false, false_or, not_false_eq_true, decide_true, Bool.and_true, Bool.and_self, a1, a2, a4, a5, a11, a12, a14, a15, a16, a17, g0, g1]
  refine ite_cases (fun hlt => ?_) (fun hlt => ?_)
  · have hlt' : i < m := by omega
    have hill : i < l.length := by omega
    have hnext := Es.run_next hill hrun
    have hok : (Es.step c (Es.runL c (l.take i)).1 (Es.at_ l (i : Int))).2 = 0 := by rw [← hnext]; exact Es.run_take r1 (i + 1)
    rw [if_pos (by decide)]
    refine awp_plan ((.op 0 (.op 1 (.op 2 (.op 3 (.op 4 (.op 5 (.op 6 (.op 7 (.op 8 (.op 9 (.op 10 (.op 11 .done))))))))))))) [10] mix (by kernel_rfl) ?_
    simp only [go_sem, ↓reduceIte, decide_eq_true_eq, reduceCtorEq, Nat.reduceEqDiff, Nat.reduceLT, Nat.reduceLeDiff, Nat.reduceAdd, Nat.reduceSub, Nat.reduceMul, Nat.reduceGT, Int.reduceNeg, Int.reduceToNat, and_true, true_and, and_false, false_and, List.getElem?_toArray, List.getElem?_cons_zero, List.getElem?_cons_succ, List.cons_append, List.nil_append, if_true, if_false, Option.getD_some, Option.isSome_some, Bool.false_eq_true, List.append_nil, List.drop_zero, List.drop_succ_cons, Bool.cond_false_right, Bool.cond_false_left, Bool.cond_true_left, Bool.cond_true_right, ite_self, Bool.not_true, Bool.not_false, cond_true, cond_false, List.size_toArray, implies_true, true_implies, false_implies, List.all_cons, List.all_nil, List.nodup_cons, List.nodup_nil, List.mem_cons, List.not_mem_nil, or_false, false_or, not_false_eq_true, decide_true, Bool.and_true, Bool.and_self, a1, a2, a4, a5, a11, a12, a14, a15, a16, a17, g0, g1]
    refine ⟨⟨by omega, by simp only [Es.len]; omega⟩, ?_⟩
    refine call_at M_P M_G (step_spec c (Es.runL c (l.take i)).1 (Es.at_ l (i : Int)) hf hsf) ?_
    simp only [go_sem, ↓reduceIte, decide_eq_true_eq, reduceCtorEq, Nat.reduceEqDiff, Nat.reduceLT, Nat.reduceLeDiff, Nat.reduceAdd, Nat.reduceSub, Nat.reduceMul, Nat.reduceGT, Int.reduceNeg, Int.reduceToNat, and_true, true_and, and_false, false_and, List.getElem?_toArray, List.getElem?_cons_zero, List.getElem?_cons_succ, List.cons_append, List.nil_append, if_true, if_false, Option.getD_some, Option.isSome_some, Bool.false_eq_true, List.append_nil, List.drop_zero, List.drop_succ_cons, Bool.cond_false_right, Bool.cond_false_left, Bool.cond_true_left, Bool.cond_true_right, ite_self, Bool.not_true, Bool.not_false, cond_true, cond_false, List.size_toArray, implies_true, true_implies, false_implies, List.all_cons, List.all_nil, List.nodup_cons, List.nodup_nil, List.mem_cons, List.not_mem_nil, or_false, false_or, not_false_eq_true, decide_true, Bool.and_true, Bool.and_self, a1, a2, a4, a5, a11, a12, a14, a15, a16, a17, g0, g1]
    refine ⟨hlt', ?_⟩
    simp only [go_sem, ↓reduceIte, decide_eq_true_eq, reduceCtorEq, Nat.reduceEqDiff, Nat.reduceLT, Nat.reduceLeDiff, Nat.reduceAdd, Nat.reduceSub, Nat.reduceMul, Nat.reduceGT, Int.reduceNeg, Int.reduceToNat, and_true, true_and, and_false, false_and, List.getElem?_toArray, List.getElem?_cons_zero, List.getElem?_cons_succ, List.cons_append, List.nil_append, if_true, if_false, Option.getD_some, Option.isSome_some, Bool.false_eq_true, List.append_nil, List.drop_zero, List.drop_succ_cons, Bool.cond_false_right, Bool.cond_false_left, Bool.cond_true_left, Bool.cond_true_right, ite_self, Bool.not_true, Bool.not_false, cond_true, cond_false, List.size_toArray, implies_true, true_implies, false_implies, List.all_cons, List.all_nil, List.nodup_cons, List.nodup_nil, List.mem_cons, List.not_mem_nil, or_false, false_or, not_false_eq_true, decide_true, Bool.and_true, Bool.and_self, a1, a2, a4, a5, a11, a12, a14, a15, a16, a17, g0, g1]
    rw [hnext]
    exact ⟨by rw [wrap_i64 _ (by omega) (by omega)]; simp, by rw [hok], hnx, rfl⟩
  · have hii : i = m := by omega
    subst hii
    have n1 : (0 = nx) = False := by simp only [eq_iff_iff, iff_false]; omega
    have n2 : (1 = nx) = False := by simp only [eq_iff_iff, iff_false]; omega
    refine call_at M_P M_G (step_spec c (Es.runL c (l.take i)).1 a hf hsf) ?_
    simp only [go_sem, ↓reduceIte, decide_eq_true_eq, reduceCtorEq, Nat.reduceEqDiff, Nat.reduceLT, Nat.reduceLeDiff, Nat.reduceAdd, Nat.reduceSub, Nat.reduceMul, Nat.reduceGT, Int.reduceNeg, Int.reduceToNat, and_true, true_and, and_false, false_and, List.getElem?_toArray, List.getElem?_cons_zero, List.getElem?_cons_succ, List.cons_append, List.nil_append, if_true, if_false, Option.getD_some, Option.isSome_some, Bool.false_eq_true, List.append_nil, List.drop_zero, List.drop_succ_cons, Bool.cond_false_right, Bool.cond_false_left, Bool.cond_true_left, Bool.cond_true_right, ite_self, Bool.not_true, Bool.not_false, cond_true, cond_false, List.size_toArray, implies_true, true_implies, false_implies, List.all_cons, List.all_nil, List.nodup_cons, List.nodup_nil, List.mem_cons, List.not_mem_nil, or_false, false_or, not_false_eq_true, decide_true, Bool.and_true, Bool.and_self, a1, a2, a4, a5, a11, a12, a14, a15, a16, a17, g0, g1, n1, n2]
    rw [if_pos (by decide)]
    have hst := Es.sfits_step c (Es.runL c (l.take i)).1 a
    repeat' (first | ((with_reducible refine call_at M_P M_G (same_spec _ _ hsf) ?_); simp only [go_sem, ↓reduceIte, decide_eq_true_eq, reduceCtorEq, Nat.reduceEqDiff, Nat.reduceLT, Nat.reduceLeDiff, Nat.reduceAdd, Nat.reduceSub, Nat.reduceMul, Nat.reduceGT, Int.reduceNeg, Int.reduceToNat, and_true, true_and, and_false, false_and, List.getElem?_toArray, List.getElem?_cons_zero, List.getElem?_cons_succ, List.cons_append, List.nil_append, if_true, if_false, Option.getD_some, Option.isSome_some, Bool.false_eq_true, List.append_nil, List.drop_zero, List.drop_succ_cons, Bool.cond_false_right, Bool.cond_false_left, Bool.cond_true_left, Bool.cond_true_right, ite_self, Bool.not_true, Bool.not_false, cond_true, cond_false, List.size_toArray, implies_true, true_implies, false_implies, List.all_cons, List.all_nil, List.nodup_cons, List.nodup_nil, List.mem_cons, List.not_mem_nil, or_false, false_or, not_false_eq_true, decide_true, Bool.and_true, Bool.and_self, a1, a2, a4, a5, a11, a12, a14, a15, a16, a17, g0, g1, n1, n2]) | ((with_reducible refine call_at M_P M_G (sees_spec c (Es.runL c (l.take i)).1 p a hf hsf) ?_); simp only [go_sem, ↓reduceIte, decide_eq_true_eq, reduceCtorEq, Nat.reduceEqDiff, Nat.reduceLT, Nat.reduceLeDiff, Nat.reduceAdd, Nat.reduceSub, Nat.reduceMul, Nat.reduceGT, Int.reduceNeg, Int.reduceToNat, and_true, true_and, and_false, false_and, List.getElem?_toArray, List.getElem?_cons_zero, List.getElem?_cons_succ, List.cons_append, List.nil_append, if_true, if_false, Option.getD_some, Option.isSome_some, Bool.false_eq_true, List.append_nil, List.drop_zero, List.drop_succ_cons, Bool.cond_false_right, Bool.cond_false_left, Bool.cond_true_left, Bool.cond_true_right, ite_self, Bool.not_true, Bool.not_false, cond_true, cond_false, List.size_toArray, implies_true, true_implies, false_implies, List.all_cons, List.all_nil, List.nodup_cons, List.nodup_nil, List.mem_cons, List.not_mem_nil, or_false, false_or, not_false_eq_true, decide_true, Bool.and_true, Bool.and_self, a1, a2, a4, a5, a11, a12, a14, a15, a16, a17, g0, g1, n1, n2]) | (with_reducible refine And.intro ?_ ?_) | ((with_reducible refine ite_cases ?_ ?_) <;> intro _))
    all_goals first
      | rfl
      | trivial
      | (simp; done)
      | skip
    have hok : (Es.step c (Es.runL c (l.take i)).1 a).2 = 0 := by simp_all
    have hsame : (Es.step c (Es.runL c (l.take i)).1 a).1 = (Es.runL c (l.take i)).1 := by
      generalize (Es.step c (Es.runL c (l.take i)).1 a).1 = t at *
      generalize (Es.runL c (l.take i)).1 = s at *
      cases s; cases t; simp_all
    have hview : Es.view c (l.take i ++ [a] ++ l.drop i) p = Es.view c l p := Es.law_hidden h0 (by omega) ha hok hsame (by simp_all)
    refine AWp.mono (Q := fun x e' st' => x = .normal ∧ e' 11 = .v (.bool true) ∧ e' 12 = slD 1 intC (Es.view c l p).1 ∧ e' 20 = slD 1 intC (Es.view c l p).1 ∧ e' 21 = .v (.int .i64 0)) ?_ ?_
    · refine awp_wf fun hw => ?_
      refine awp_plan ((.op 2 (.op 3 (.op 4 (.op 6 (.op 9 (.op 10 (.op 11 (.op 13 (.alt 0 (.alt 1 (.alt 5 (.op 7 (.op 8 (.op 12 (.op 14 (.op 15 (.op 16 (.op 17 (.op 18 (.op 19 .done))))))))) (.alt 7 (.op 5 (.op 8 (.op 12 (.op 14 (.op 15 (.op 16 (.op 17 (.op 18 (.op 19 .done))))))))) .dead)) (.alt 7 (.op 1 (.op 5 (.op 8 (.op 12 (.op 14 (.op 15 (.op 16 (.op 17 (.op 18 (.op 19 .done)))))))))) .dead)) (.alt 1 (.alt 0 (.alt 5 (.op 7 (.op 8 (.op 12 (.op 14 (.op 15 (.op 16 (.op 17 (.op 18 (.op 19 .done))))))))) (.alt 7 (.op 5 (.op 8 (.op 12 (.op 14 (.op 15 (.op 16 (.op 17 (.op 18 (.op 19 .done))))))))) .dead)) (.alt 5 (.alt 0 (.op 7 (.op 8 (.op 12 (.op 14 (.op 15 (.op 16 (.op 17 (.op 18 (.op 19 .done))))))))) (.alt 7 (.alt 0 (.op 8 (.op 12 (.op 14 (.op 15 (.op 16 (.op 17 (.op 18 (.op 19 .done)))))))) (.alt 8 (.alt 0 (.op 12 (.op 14 (.op 15 (.op 16 (.op 17 (.op 18 (.op 19 .done))))))) (.alt 12 (.op 0 (.op 14 (.op 15 (.op 16 (.op 17 (.op 18 (.op 19 .done))))))) .dead)) .dead)) .dead)) (.alt 7 (.alt 0 (.op 5 (.op 8 (.op 12 (.op 14 (.op 15 (.op 16 (.op 17 (.op 18 (.op 19 .done))))))))) (.alt 5 (.alt 0 (.op 8 (.op 12 (.op 14 (.op 15 (.op 16 (.op 17 (.op 18 (.op 19 .done)))))))) (.alt 8 (.alt 0 (.op 12 (.op 14 (.op 15 (.op 16 (.op 17 (.op 18 (.op 19 .done))))))) (.alt 12 (.op 0 (.op 14 (.op 15 (.op 16 (.op 17 (.op 18 (.op 19 .done))))))) .dead)) .dead)) .dead)) .dead))) (.alt 7 (.alt 0 (.op 1 (.op 5 (.op 8 (.op 12 (.op 14 (.op 15 (.op 16 (.op 17 (.op 18 (.op 19 .done)))))))))) (.alt 1 (.alt 0 (.op 5 (.op 8 (.op 12 (.op 14 (.op 15 (.op 16 (.op 17 (.op 18 (.op 19 .done))))))))) (.alt 5 (.alt 0 (.op 8 (.op 12 (.op 14 (.op 15 (.op 16 (.op 17 (.op 18 (.op 19 .done)))))))) (.alt 8 (.alt 0 (.op 12 (.op 14 (.op 15 (.op 16 (.op 17 (.op 18 (.op 19 .done))))))) (.alt 12 (.op 0 (.op 14 (.op 15 (.op 16 (.op 17 (.op 18 (.op 19 .done))))))) .dead)) .dead)) .dead)) .dead)) .dead)))))))))))) [5, 8, 12, 14] mix (by kernel_rfl) ?_
      have e0 : ∀ {a b : Nat}, a ≠ b → (a = b) = False := fun h => by simp [h]
      have z1 : (nx = nx + 1) = False := e0 (by omega)
      have z2 : (nx = nx + 2) = False := e0 (by omega)
      have z3 : (nx = nx + 3) = False := e0 (by omega)
      have z4 : (nx = nx + 4) = False := e0 (by omega)
      have z5 : (nx + 1 = nx) = False := e0 (by omega)
      have z6 : (nx + 2 = nx) = False := e0 (by omega)
      have z7 : (nx + 3 = nx) = False := e0 (by omega)
      have z8 : (nx + 4 = nx) = False := e0 (by omega)
      simp only [go_sem, ↓reduceIte, decide_eq_true_eq, reduceCtorEq, Nat.reduceEqDiff, Nat.reduceLT, Nat.reduceLeDiff, Nat.reduceAdd, Nat.reduceSub, Nat.reduceMul, Nat.reduceGT, Int.reduceNeg, Int.reduceToNat, and_true, true_and, and_false, false_and, List.getElem?_toArray, List.getElem?_cons_zero, List.getElem?_cons_succ, List.cons_append, List.nil_append, if_true, if_false, Option.getD_some, Option.isSome_some, Bool.false_eq_true, List.append_nil, List.drop_zero, List.drop_succ_cons, Bool.cond_false_right, Bool.cond_false_left, Bool.cond_true_left, Bool.cond_true_right, ite_self, Bool.not_true, Bool.not_false, cond_true, cond_false, List.size_toArray, implies_true, true_implies, false_implies, List.all_cons, List.all_nil, List.nodup_cons, List.nodup_nil, List.mem_cons, List.not_mem_nil, or_false, false_or, not_false_eq_true, decide_true, Bool.and_true, Bool.and_self, z1, z2, z3, z4, z5, z6, z7, z8, a1, a2, a4, a5, a11, a12, a14, a15, a16, a17, g0, g1, n1, n2]
      repeat' (with_reducible refine And.intro ?_ ?_)
      all_goals first
        | omega
        | (refine keeps_set ?_
           first
             | exact hw _ 0 (by simp only; omega)
             | (rw [set_ne (by omega)]; exact hw _ 0 (by simp only; omega))
             | (rw [set_ne (by omega), set_ne (by omega)]; exact hw _ 0 (by simp only; omega))
             | (rw [set_ne (by omega), set_ne (by omega), set_ne (by omega)]; exact hw _ 0 (by simp only; omega))
             | (rw [set_ne (by omega), set_ne (by omega), set_ne (by omega), set_ne (by omega)]; exact hw _ 0 (by simp only; omega)))
        | skip
      all_goals
        refine acall_freeze (f := nx + 1 + 1 + 1 + 1 + 1) (k := 1) (cell' := rowsOf intC (l.take i ++ [a] ++ l.drop i)) (args' := [conD c, .sl 1 _ (rowsOf intC (l.take i ++ [a] ++ l.drop i)), .v (.int .i64 p)]) set_eq (hid_cell l i hml a _ _ rfl _ _ _ (by simp) (by simp) (by simp)) ⟨.inl rfl, .inr ⟨rfl, rfl⟩, .inl rfl, trivial⟩ ?_
        refine acall_weak (args' := [conD c, slD 1 intC (l.take i ++ [a] ++ l.drop i), .v (.int .i64 p)]) ⟨fun _ _ h => h, wk_sl (by simp; omega) (fun _ _ _ _ => rfl), fun _ _ h => h, trivial⟩ ?_
        refine call_at M_P M_G (view_spec c (l.take i ++ [a] ++ l.drop i) p hf (by simp; omega)) ?_
        simp only [go_sem, ↓reduceIte, decide_eq_true_eq, reduceCtorEq, Nat.reduceEqDiff, Nat.reduceLT, Nat.reduceLeDiff, Nat.reduceAdd, Nat.reduceSub, Nat.reduceMul, Nat.reduceGT, Int.reduceNeg, Int.reduceToNat, and_true, true_and, and_false, false_and, List.getElem?_toArray, List.getElem?_cons_zero, List.getElem?_cons_succ, List.cons_append, List.nil_append, if_true, if_false, Option.getD_some, Option.isSome_some, Bool.false_eq_true, List.append_nil, List.drop_zero, List.drop_succ_cons, Bool.cond_false_right, Bool.cond_false_left, Bool.cond_true_left, Bool.cond_true_right, ite_self, Bool.not_true, Bool.not_false, cond_true, cond_false, List.size_toArray, implies_true, true_implies, false_implies, List.all_cons, List.all_nil, List.nodup_cons, List.nodup_nil, List.mem_cons, List.not_mem_nil, or_false, false_or, not_false_eq_true, decide_true, Bool.and_true, Bool.and_self, hview, h0, a1, a2, a4, a5, a11, a12, a14, a15, a16, a17, g0, g1, n1, n2]
    · rintro x e' st' ⟨rfl, q11, q12, q20, q21⟩
      simp only [go_sem, ↓reduceIte, decide_eq_true_eq, reduceCtorEq, Nat.reduceEqDiff, Nat.reduceLT, Nat.reduceLeDiff, Nat.reduceAdd, Nat.reduceSub, Nat.reduceMul, Nat.reduceGT, Int.reduceNeg, Int.reduceToNat, and_true, true_and, and_false, false_and, List.getElem?_toArray, List.getElem?_cons_zero, List.getElem?_cons_succ, List.cons_append, List.nil_append, if_true, if_false, Option.getD_some, Option.isSome_some, Bool.false_eq_true, List.append_nil, List.drop_zero, List.drop_succ_cons, Bool.cond_false_right, Bool.cond_false_left, Bool.cond_true_left, Bool.cond_true_right, ite_self, Bool.not_true, Bool.not_false, cond_true, cond_false, List.size_toArray, implies_true, true_implies, false_implies, List.all_cons, List.all_nil, List.nodup_cons, List.nodup_nil, List.mem_cons, List.not_mem_nil, or_false, false_or, not_false_eq_true, decide_true, Bool.and_true, Bool.and_self, q11, q12, q20, q21]
      rw [if_pos (by decide)]
      refine call_at M_P M_G (ints_spec _ _ (by unfold Es.view; omega)) ?_
      simp only [go_sem, ↓reduceIte, decide_eq_true_eq, reduceCtorEq, Nat.reduceEqDiff, Nat.reduceLT, Nat.reduceLeDiff, Nat.reduceAdd, Nat.reduceSub, Nat.reduceMul, Nat.reduceGT, Int.reduceNeg, Int.reduceToNat, and_true, true_and, and_false, false_and, List.getElem?_toArray, List.getElem?_cons_zero, List.getElem?_cons_succ, List.cons_append, List.nil_append, if_true, if_false, Option.getD_some, Option.isSome_some, Bool.false_eq_true, List.append_nil, List.drop_zero, List.drop_succ_cons, Bool.cond_false_right, Bool.cond_false_left, Bool.cond_true_left, Bool.cond_true_right, ite_self, Bool.not_true, Bool.not_false, cond_true, cond_false, List.size_toArray, implies_true, true_implies, false_implies, List.all_cons, List.all_nil, List.nodup_cons, List.nodup_nil, List.mem_cons, List.not_mem_nil, or_false, false_or, not_false_eq_true, decide_true, Bool.and_true, Bool.and_self, q11, q12, q20, q21]
      simp [Es.ints]
end Tryd
end Go.Proofs
end
section
/-
  For every input ProjectHidden returns true, and the arguments read as they did. No condition.
-/
namespace Go.Proofs.YtmdnombjckcfoaaDoor
open Go Go.Abs Go.ChangeShapes Go.WideShapes Go.ChangeAt Go.RowKit
set_option linter.unusedVariables false
namespace lawProjectHidden
set_option maxRecDepth 100000 in
theorem lifted (os : Os) (started : os.Started) (H : Type) (enc : TypeId × Value → H) :
    ReturnsInHanded {} Tryd.checked os 7 .any (fun w args => (Rows.projectHiddenSpec.pre enc Tryd.prog Tryd.f7 [] false w args ∧ laidMetH Tryd.prog Tryd.laidL w) ∧ sizedMet enc Tryd.prog Tryd.f7 (OpenSpec.ofChange Rows.projectHiddenSpec) false w args)
      (Rows.projectHiddenSpec.post enc Tryd.prog Tryd.f7 false true false false) := by
  refine returnsInHanded_of_change_and (C := Tryd.checked) (X := fun w _ => laidMetH Tryd.prog Tryd.laidL w) (fun _ _ _ hh h => h.of_heap hh) Tryd.own started (by kernel_rfl) Tryd.func7
    (ChangeSpec.witness_shaped (enc := enc) (C := Tryd.checked) (os := os) (X := fun w _ => laidMetH Tryd.prog Tryd.laidL w) false (World.doorLaid Tryd.prog 400 os) #[.agg #[.int .i64 0, .slice none 0 0, .slice none 0 0, .slice none 0 0, .slice none 0 0, .int .i64 0, .slice none 0 0], .slice none 0 0, .int .i64 0, .int .u8 0, .int .i64 0] 8 rfl (World.shaped_of_RefB (by kernel_rfl) (by kernel_rfl)) (by kernel_rfl) (by kernel_rfl) (by kernel_rfl) (Tryd.door_met os _)) ?_
  intro W base args ds gs before hval0 hW _ _ hL _
  have hval : ∀ (j : Nat) t v, Tryd.f7.params[j]? = some t → args[j]? = some v → Value.okWide Tryd.prog W .any base t v := hval0
  have hW' := hW
  obtain ⟨p, q, hA0, hV, rfl, hfz, hnd⟩ := hW
  have hA : DataW.TrodAll enc Tryd.prog W 0 (fun _ => true) true Tryd.f7.params.toList args.toList ds p := hA0
  rw [Tryd.params7] at hA hval
  have hstay := hA
  obtain ⟨rfl, rfl⟩ := trodVars_none hV
  simp only [List.append_nil] at hW'
  obtain ⟨v0, vs0, d0, ds0, p0, q0, e0, rfl, rfl, h0, t0⟩ := trodAll_cons hA
  obtain ⟨v1, vs1, d1, ds1, p1, q1, e1, rfl, rfl, h1, t1⟩ := trodAll_cons t0
  obtain ⟨v2, vs2, d2, ds2, p2, q2, e2, rfl, rfl, h2, t2⟩ := trodAll_cons t1
  obtain ⟨v3, vs3, d3, ds3, p3, q3, e3, rfl, rfl, h3, t3⟩ := trodAll_cons t2
  obtain ⟨v4, vs4, d4, ds4, p4, q4, e4, rfl, rfl, h4, t4⟩ := trodAll_cons t3
  obtain ⟨z1, rfl, rfl⟩ := trodAll_nil t4
  subst z1
  subst e4
  subst e3
  subst e2
  subst e1
  obtain rfl : args = #[v0, v1, v2, v3, v4] := by apply Array.ext'; simpa using e0
  obtain ⟨x0, g0, r0⟩ := Tryd.arg_contract (hval 0 27 v0 rfl rfl) h0
  obtain ⟨x1, g1, r1⟩ := Tryd.arg_ints (hval 1 22 v1 rfl rfl) h1
  obtain ⟨x2, g2, r2⟩ := Tryd.arg_int (hval 2 3 v2 rfl rfl) h2
  obtain ⟨x3, g3, r3⟩ := Tryd.arg_u8 (hval 3 5 v3 rfl rfl) h3
  obtain ⟨x4, g4, r4⟩ := Tryd.arg_int (hval 4 3 v4 rfl rfl) h4
  refine (calls_of_apure (vals := [v0, v1, v2, v3, v4]) (Tryd.phidden_spec x0 x1 x2 x3 x4 g0 g1 g3) rfl (fun i d hi => ?_) (Tryd.glob_ok hL)).mono ?_
  · rcases i with _ | _ | _ | _ | _ | i <;> first | (simp at hi; subst hi; assumption) | (simp at hi)
  · rintro e W' ⟨c', v, rfl, rfl, hb, hr⟩
    cases hr
    have hlt := hW'.lt
    refine ⟨_, rfl, ⟨_, _, _, [], _, [], hW', trodAll_mk1 (shut_bool Tryd.underlying4 _), args_stay Tryd.rowLaidOut hb ?_ hA0 ?_ ?_, rfl, hb.frame _, fun h => by cases h⟩⟩
    · rw [Tryd.params7]; intro t ht
      have hall : ([27, 22, 3, 5, 3].all fun t => Tryd.prog.readableRec t && decide (t < Tryd.prog.types.size)) = true := by kernel_rfl
      have := List.all_eq_true.1 hall t (by simpa using ht)
      simpa using this
    · intro x hx; exact by simpa using hlt x (by simpa using hx)
    · intro x hx; simpa using hlt x (by simpa using hx)
theorem row_holds : Rows.ProjectHiddenSaid :=
  OpenClaim.holds_of_wide 7 Tryd.f7 rfl rfl rfl rfl rfl rfl rfl ⟨rfl, rfl, rfl, rfl, rfl⟩ rfl rfl rfl rfl rfl (by kernel_rfl) Tryd.func7 (by kernel_rfl)
    (of_decide_eq_true (by kernel_rfl)) (by unfold Func.isWrapper; first | (rw [if_pos (by decide +kernel)]; kernel_rfl) | (rw [if_neg (by decide +kernel)]; exact ⟨rfl, rfl⟩))
    (fun os started H enc _ => lifted os started H enc)
theorem card_holds : Rows.ProjectHiddenCardSaid :=
  Claim7.holds_tied_plain_at .later [] [.data, .data] true Rows.projectHiddenCard.stood.harness false
    row_holds (fun _ h => by cases h) (by kernel_rfl) (fun _ h => by cases h) projectHidden_row_tie rfl ⟨rfl, rfl⟩ (by kernel_rfl) rfl
    (fun f fn hf hfn => by
      obtain rfl : f = 7 := Option.some.inj ((show Tryd.prog.funcNamed Rows.projectHiddenRow.func = some 7 by kernel_rfl).symm.trans hf) |>.symm
      obtain rfl : fn = Tryd.f7 := (Option.some.inj (Tryd.func7.symm.trans hfn)).symm
      exact ⟨by kernel_rfl, fun j t ht => by
        rw [Tryd.params7] at ht
        have hm : t ∈ [27, 22, 3, 5, 3] := by simpa using Array.mem_of_getElem? ht
        have hall : ([27, 22, 3, 5, 3].all fun u => !Tryd.prog.wantsStandIn u) = true := by kernel_rfl
        exact (show Tryd.prog.wantsStandIn t = false by simpa using List.all_eq_true.1 hall t hm)⟩)
    (by kernel_rfl)
end lawProjectHidden
#print axioms lawProjectHidden.card_holds
end Go.Proofs.YtmdnombjckcfoaaDoor
end
