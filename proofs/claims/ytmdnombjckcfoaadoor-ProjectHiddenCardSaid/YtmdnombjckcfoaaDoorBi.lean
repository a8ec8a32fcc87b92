/-
  Parts of an abstract machine over the model, of the program's data and of what its functions compute: the texts F33 F34 AbsT F35, merged.
-/
import Derived.Test.YtmdnombjckcfoaaDoorBh
set_option linter.unusedSimpArgs false
set_option linter.unusedVariables false
section
namespace Go.Proofs
open Go Go.Abs
set_option linter.unusedSimpArgs false
set_option linter.unusedVariables false
set_option maxRecDepth 10000
namespace Tryd
/-- A list that grows: nothing, or an owned slice beyond n0. -/
def OutIs (n0 : Nat) (st : S) (d : D) (l : List Int) : Prop :=
  (l = [] ∧ d = .v (.slice none 0 0)) ∨ ∃ f cell, d = .ms f 0 1 0 l.length ∧ n0 < f ∧ f < st.nx ∧ st.o f 0 = some (.blk 1 l.length 3 cell) ∧ ∀ r, r < l.length → cell r 0 = .v (.int .i64 (Es.at_ l (r : Int)))
/-- What the loop of a filter owns. -/
structure FiJ (o : St) (nx : Nat) (c : Es.Contract) (l ps : List Int) (g : Nat) (caps : List D) (rd : SObj) (i : Nat) (st : S) : Prop where
  nxt : nx + 8 ≤ st.nx
  old : ∀ f j, f < nx → st.o f j = o f j
  kee : st.o (nx + 1) 0 = some (.blk 1 1 82 (rowOf [.fn (.func g) caps]))
  out : ∃ d cell, st.o (nx + 2) 0 = some (.blk 1 1 22 cell) ∧ cell 0 0 = d ∧ OutIs (nx + 8) st d (Es.kept c ps (l.take i) (Es.start c))
  err : ∃ cell, st.o (nx + 3) 0 = some (.blk 1 1 30 cell)
  con : st.o (nx + 4) 0 = some (.blk 7 1 27 (rowOf [.v (.int .i64 c.parties), slD 1 intC c.holders, slD 5 untC c.units, slD 7 actC c.acts, slD 16 clsC c.clauses, .v (.int .i64 c.days), slD 1 intC c.off]))
  lst : st.o (nx + 5) 0 = some (.blk 1 1 22 (rowOf [slD 1 intC l]))
  ptr : st.o (nx + 6) 0 = some (.blk 1 1 120 (rowOf [.mp (nx + 3) 0 1 0 0]))
  rcd : st.o (nx + 7) 0 = some rd
theorem fiJ {o : St} {nx : Nat} {c : Es.Contract} {l ps : List Int} {g : Nat} {caps : List D} {rd : SObj} : ExJ c l (nx + 4) (nx + 5) (nx + 6) (nx + 3) (nx + 8) 22 120 30 (FiJ o nx c l ps g caps rd) where
  con _ _ h := h.con
  lst _ _ h := h.lst
  ptr _ _ h := h.ptr
  err _ _ h := h.err
  nxt _ _ h := h.nxt
  same i o1 n1 o2 n2 h hn hs := by
    have hx := h.nxt
    simp only at hx
    refine ⟨by simp only; omega, fun f j hf => (hs f j (by omega) (by omega)).trans (h.old f j hf), (hs _ 0 (by omega) (by omega)).trans h.kee, ?_, ?_, (hs _ 0 (by omega) (by omega)).trans h.con, (hs _ 0 (by omega) (by omega)).trans h.lst, (hs _ 0 (by omega) (by omega)).trans h.ptr, (hs _ 0 (by omega) (by omega)).trans h.rcd⟩
    · obtain ⟨d, cell, h1, h2, h3⟩ := h.out
      refine ⟨d, cell, (hs _ 0 (by omega) (by omega)).trans h1, h2, ?_⟩
      rcases h3 with h3 | ⟨f, cl, g1, g2, g3, g4, g5⟩
      · exact .inl h3
      · simp only at g3 g4
        exact .inr ⟨f, cl, g1, g2, by simp only; omega, (hs f 0 g3 (by omega)).trans g4, g5⟩
    · obtain ⟨cell, h1⟩ := h.err
      exact ⟨cell, (hs _ 0 (by omega) (by omega)).trans h1⟩
  lt := ⟨by omega, by omega, by omega, by omega⟩
theorem FiJ.next {o : St} {nx : Nat} {c : Es.Contract} {l ps : List Int} {g : Nat} {caps : List D} {rd : SObj} {i : Nat} {o1 o3 : St} {n1 n3 : Nat} (h : FiJ o nx c l ps g caps rd i ⟨o1, n1⟩) (hn : n1 ≤ n3) (hr : o3 (nx + 7) 0 = some rd)
    (hs : ∀ f j, f < nx + 8 → f ≠ nx + 2 → f ≠ nx + 7 → o3 f j = o1 f j) (ho : ∃ d cell, o3 (nx + 2) 0 = some (.blk 1 1 22 cell) ∧ cell 0 0 = d ∧ OutIs (nx + 8) ⟨o3, n3⟩ d (Es.kept c ps (l.take (i + 1)) (Es.start c))) : FiJ o nx c l ps g caps rd (i + 1) ⟨o3, n3⟩ := by
  have hx := h.nxt
  simp only at hx
  refine ⟨by simp only; omega, fun f j hf => (hs f j (by omega) (by omega) (by omega)).trans (h.old f j hf), (hs _ 0 (by omega) (by omega) (by omega)).trans h.kee, ho, ?_, (hs _ 0 (by omega) (by omega) (by omega)).trans h.con, (hs _ 0 (by omega) (by omega) (by omega)).trans h.lst, (hs _ 0 (by omega) (by omega) (by omega)).trans h.ptr, hr⟩
  obtain ⟨cell, h1⟩ := h.err
  exact ⟨cell, (hs _ 0 (by omega) (by omega) (by omega)).trans h1⟩
theorem out_app {cl src : Nat → Nat → D} {l : List Int} {x : Int} (h : ∀ r, r < l.length → cl r 0 = .v (.int .i64 (Es.at_ l (r : Int)))) (hs : src 0 0 = .v (.int .i64 x)) : ∀ r, r < (l ++ [x]).length → appC cl l.length src r 0 = .v (.int .i64 (Es.at_ (l ++ [x]) (r : Int))) := by
  intro r hr
  have hr' : r < l.length + 1 := by simpa using hr
  simp only [appC]
  by_cases h1 : r < l.length
  · rw [if_pos h1, h r h1, Es.at_nat h1, Es.at_nat hr, List.getElem_append_left h1]
  · have : r = l.length := by omega
    subst this
    rw [if_neg h1, Nat.sub_self, hs, Es.at_nat hr]; simp
theorem OutIs.mk' {n0 f n : Nat} {st : S} {cell : Nat → Nat → D} {l : List Int} (hl : l.length = n) (h1 : n0 < f) (h2 : f < st.nx) (h : st.o f 0 = some (.blk 1 n 3 cell)) (hc : ∀ r, r < l.length → cell r 0 = .v (.int .i64 (Es.at_ l (r : Int)))) : OutIs n0 st (.ms f 0 1 0 n) l := by
  subst hl; exact .inr ⟨f, cell, rfl, h1, h2, h, hc⟩
theorem OutIs.fz {n0 nx' : Nat} {st : S} {o' : St} {d : D} {l : List Int} (h : OutIs n0 st d l) (ho : ∀ f j, n0 < f → o' f j = st.o f j) : Fz ⟨o', nx'⟩ d (slD 1 intC l) := by
  rcases h with ⟨rfl, rfl⟩ | ⟨f, cell, rfl, h1, h2, h3, h4⟩
  · exact .nil _ _
  · refine fz_ms ((ho f 0 h1).trans h3) rfl pu_intC fun r j hr hj => ?_
    obtain rfl : j = 0 := by omega
    rw [h4 r hr]; rfl
theorem filter_spec (X : D → Value → Prop) (N : Nat) (r : Option Nat) (b : Nat) (c : Es.Contract) (l ps : List Int) (g : Nat) (caps : List D) (hc : callable prog g = true) (o : St) (nx : Nat)
    (hkeep : ∀ (X : D → Value → Prop) (N : Nat) (r : Option Nat) (b : Nat) (k : Int) (s : Es.State) (o2 : St) (nx2 : Nat) (K : D → S → Prop), (∀ f j, f < nx → o2 f j = o f j) → (Es.step c s k).2 = 0 → Es.SFits s → K (.v (.bool (Es.keepB c ps (k, s)))) ⟨o2, nx2⟩ →
      ACall { P := prog, G := gl, X := X, N := N, r := r, b := b } g (.v (.int .i64 k) :: staD s :: caps) ⟨o2, nx2⟩ K)
    (hf : Es.Fits c) (hl : l.length ≤ 1000000) (hst : (Es.start c).2 = 0) (K : D → S → Prop)
    (hk0 : (Es.runL c l).2 = 0 → ∀ d o' nx', Fz ⟨o', nx'⟩ d (slD 1 intC (Es.kept c ps l (Es.start c))) → K (.tup [d, .v (.int .i64 0)]) ⟨o', nx'⟩)
    (hk1 : (Es.runL c l).2 ≠ 0 → ∀ o' nx', K (.tup [.v (.slice none 0 0), .v (.int .i64 (Es.runL c l).2)]) ⟨o', nx'⟩) :
    ACall { P := prog, G := gl, X := X, N := N, r := r, b := b } 40 [conD c, slD 1 intC l, .fn (.func g) caps] ⟨o, nx⟩ K := by
  refine acall_ofA (M := { P := prog, G := gl, X := X, N := N, r := r, b := b }) func40 rfl results40 ntmps40 (by simp) fun b => ?_
  simp only [go_sem, ↓reduceIte, decide_eq_true_eq, reduceCtorEq, Nat.reduceEqDiff, Nat.reduceLT, Nat.reduceLeDiff, Nat.reduceAdd, Nat.reduceSub, Nat.reduceMul, Nat.reduceGT, Int.reduceNeg, Int.reduceToNat, and_true, true_and, and_false, false_and, List.getElem?_toArray, List.getElem?_cons_zero, List.getElem?_cons_succ, List.cons_append, List.nil_append, if_true, if_false, Option.getD_some, Option.isSome_some, Bool.false_eq_true, List.append_nil, List.drop_zero, List.drop_succ_cons, Bool.cond_false_right, Bool.cond_false_left, Bool.cond_true_left, Bool.cond_true_right, ite_self, Bool.not_true, Bool.not_false, cond_true, cond_false, List.size_toArray, implies_true, true_implies, false_implies, List.all_cons, List.all_nil, List.nodup_cons, List.nodup_nil, List.mem_cons, List.not_mem_nil, or_false, false_or, not_false_eq_true, decide_true, Bool.and_true, Bool.and_self]
  have e0 : ∀ {a b : Nat}, a ≠ b → (a = b) = False := fun h => by simp [h]
  have q1 : (nx = nx + 1) = False := e0 (by omega)
  have q2 : (nx = nx + 1 + 1) = False := e0 (by omega)
  have q3 : (nx = nx + 1 + 1 + 1) = False := e0 (by omega)
  simp only [go_sem, ↓reduceIte, decide_eq_true_eq, reduceCtorEq, Nat.reduceEqDiff, Nat.reduceLT, Nat.reduceLeDiff, Nat.reduceAdd, Nat.reduceSub, Nat.reduceMul, Nat.reduceGT, Int.reduceNeg, Int.reduceToNat, and_true, true_and, and_false, false_and, List.getElem?_toArray, List.getElem?_cons_zero, List.getElem?_cons_succ, List.cons_append, List.nil_append, if_true, if_false, Option.getD_some, Option.isSome_some, Bool.false_eq_true, List.append_nil, List.drop_zero, List.drop_succ_cons, Bool.cond_false_right, Bool.cond_false_left, Bool.cond_true_left, Bool.cond_true_right, ite_self, Bool.not_true, Bool.not_false, cond_true, cond_false, List.size_toArray, implies_true, true_implies, false_implies, List.all_cons, List.all_nil, List.nodup_cons, List.nodup_nil, List.mem_cons, List.not_mem_nil, or_false, false_or, not_false_eq_true, decide_true, Bool.and_true, Bool.and_self, q1, q2, q3]
  refine executed_spec _ _ _ _ c l _ _ _ _ ?_
  simp only [go_sem, ↓reduceIte, decide_eq_true_eq, reduceCtorEq, Nat.reduceEqDiff, Nat.reduceLT, Nat.reduceLeDiff, Nat.reduceAdd, Nat.reduceSub, Nat.reduceMul, Nat.reduceGT, Int.reduceNeg, Int.reduceToNat, and_true, true_and, and_false, false_and, List.getElem?_toArray, List.getElem?_cons_zero, List.getElem?_cons_succ, List.cons_append, List.nil_append, if_true, if_false, Option.getD_some, Option.isSome_some, Bool.false_eq_true, List.append_nil, List.drop_zero, List.drop_succ_cons, Bool.cond_false_right, Bool.cond_false_left, Bool.cond_true_left, Bool.cond_true_right, ite_self, Bool.not_true, Bool.not_false, cond_true, cond_false, List.size_toArray, implies_true, true_implies, false_implies, List.all_cons, List.all_nil, List.nodup_cons, List.nodup_nil, List.mem_cons, List.not_mem_nil, or_false, false_or, not_false_eq_true, decide_true, Bool.and_true, Bool.and_self]
  refine awp_rangeFunc rfl (by simp) (gf := 98) (caps := [.mp (nx + 4) 0 7 0 0, .mp (nx + 5) 0 1 0 0, .mp (nx + 6) 0 1 0 0]) (by simp only [go_sem, ↓reduceIte, decide_eq_true_eq, reduceCtorEq, Nat.reduceEqDiff, Nat.reduceLT, Nat.reduceLeDiff, Nat.reduceAdd, Nat.reduceSub, Nat.reduceMul, Nat.reduceGT, Int.reduceNeg, Int.reduceToNat, and_true, true_and, and_false, false_and, List.getElem?_toArray, List.getElem?_cons_zero, List.getElem?_cons_succ, List.cons_append, List.nil_append, if_true, if_false, Option.getD_some, Option.isSome_some, Bool.false_eq_true, List.append_nil, List.drop_zero, List.drop_succ_cons, Bool.cond_false_right, Bool.cond_false_left, Bool.cond_true_left, Bool.cond_true_right, ite_self, Bool.not_true, Bool.not_false, cond_true, cond_false, List.size_toArray, implies_true, true_implies, false_implies, List.all_cons, List.all_nil, List.nodup_cons, List.nodup_nil, List.mem_cons, List.not_mem_nil, or_false, false_or, not_false_eq_true, decide_true, Bool.and_true, Bool.and_self]) (by simp only [go_sem, ↓reduceIte, decide_eq_true_eq, reduceCtorEq, Nat.reduceEqDiff, Nat.reduceLT, Nat.reduceLeDiff, Nat.reduceAdd, Nat.reduceSub, Nat.reduceMul, Nat.reduceGT, Int.reduceNeg, Int.reduceToNat, and_true, true_and, and_false, false_and, List.getElem?_toArray, List.getElem?_cons_zero, List.getElem?_cons_succ, List.cons_append, List.nil_append, if_true, if_false, Option.getD_some, Option.isSome_some, Bool.false_eq_true, List.append_nil, List.drop_zero, List.drop_succ_cons, Bool.cond_false_right, Bool.cond_false_left, Bool.cond_true_left, Bool.cond_true_right, ite_self, Bool.not_true, Bool.not_false, cond_true, cond_false, List.size_toArray, implies_true, true_implies, false_implies, List.all_cons, List.all_nil, List.nodup_cons, List.nodup_nil, List.mem_cons, List.not_mem_nil, or_false, false_or, not_false_eq_true, decide_true, Bool.and_true, Bool.and_self]) ?_
  intro X2 y rd bz dn hround
  refine executed1_spec X2 _ _ _ y c l (nx + 4) (nx + 5) (nx + 6) (nx + 3) 22 120 30 (FiJ o nx c l ps g caps rd) _ _ fiJ hf hl hst ?_ ?_ _ ?_
  · intro N' b' i o1 o2 n1 hi hJ hn1 hs2 hrun hok
    have hrec : o2 (nx + 7) 0 = some rd := (hs2 _ 0 (by omega)).trans hJ.rcd
    refine around_ctx (hround _ _ _ (by simp) hrec ?_)
    refine wpA_sound _ _ _ _ ?_
    have F1 : o2 (nx + 1) 0 = some (.blk 1 1 82 (rowOf [.fn (.func g) caps])) := (hs2 _ 0 (by omega)).trans hJ.kee
    obtain ⟨d, cell, hout, hcell, hO⟩ := hJ.out
    have F2 : o2 (nx + 1 + 1) 0 = some (.blk 1 1 22 cell) := (hs2 _ 0 (by omega)).trans hout
    have F7 : o2 (nx + 1 + 1 + 1 + 1 + 1 + 1 + 1) 0 = some rd := hrec
    have hS := Es.sfits_run c (l.take i)
    have hnext := Es.kept_next (ps := ps) hi hrun hok
    have z1 : (nx + 1 = nx + 1 + 1) = False := e0 (by omega); have z2 : (nx + 1 = nx + 1 + 1 + 1 + 1 + 1 + 1 + 1) = False := e0 (by omega); have z3 : (nx + 1 = n1 + 1) = False := e0 (by omega); have z4 : (nx + 1 = n1 + 1 + 1) = False := e0 (by omega); have z5 : (nx + 1 = n1 + 1 + 1 + 1) = False := e0 (by omega); have z6 : (nx + 1 + 1 = nx + 1) = False := e0 (by omega); have z7 : (nx + 1 + 1 = nx + 1 + 1 + 1 + 1 + 1 + 1 + 1) = False := e0 (by omega); have z8 : (nx + 1 + 1 = n1 + 1) = False := e0 (by omega); have z9 : (nx + 1 + 1 = n1 + 1 + 1) = False := e0 (by omega); have z10 : (nx + 1 + 1 = n1 + 1 + 1 + 1) = False := e0 (by omega); have z11 : (nx + 1 + 1 + 1 + 1 + 1 + 1 + 1 = nx + 1) = False := e0 (by omega); have z12 : (nx + 1 + 1 + 1 + 1 + 1 + 1 + 1 = nx + 1 + 1) = False := e0 (by omega); have z13 : (nx + 1 + 1 + 1 + 1 + 1 + 1 + 1 = n1 + 1) = False := e0 (by omega); have z14 : (nx + 1 + 1 + 1 + 1 + 1 + 1 + 1 = n1 + 1 + 1) = False := e0 (by omega); have z15 : (nx + 1 + 1 + 1 + 1 + 1 + 1 + 1 = n1 + 1 + 1 + 1) = False := e0 (by omega); have z16 : (n1 + 1 = nx + 1) = False := e0 (by omega); have z17 : (n1 + 1 = nx + 1 + 1) = False := e0 (by omega); have z18 : (n1 + 1 = nx + 1 + 1 + 1 + 1 + 1 + 1 + 1) = False := e0 (by omega); have z19 : (n1 + 1 = n1 + 1 + 1) = False := e0 (by omega); have z20 : (n1 + 1 = n1 + 1 + 1 + 1) = False := e0 (by omega); have z21 : (n1 + 1 + 1 = nx + 1) = False := e0 (by omega); have z22 : (n1 + 1 + 1 = nx + 1 + 1) = False := e0 (by omega); have z23 : (n1 + 1 + 1 = nx + 1 + 1 + 1 + 1 + 1 + 1 + 1) = False := e0 (by omega); have z24 : (n1 + 1 + 1 = n1 + 1) = False := e0 (by omega); have z25 : (n1 + 1 + 1 = n1 + 1 + 1 + 1) = False := e0 (by omega); have z26 : (n1 + 1 + 1 + 1 = nx + 1) = False := e0 (by omega); have z27 : (n1 + 1 + 1 + 1 = nx + 1 + 1) = False := e0 (by omega); have z28 : (n1 + 1 + 1 + 1 = nx + 1 + 1 + 1 + 1 + 1 + 1 + 1) = False := e0 (by omega); have z29 : (n1 + 1 + 1 + 1 = n1 + 1) = False := e0 (by omega); have z30 : (n1 + 1 + 1 + 1 = n1 + 1 + 1) = False := e0 (by omega)
    simp only [go_sem, ↓reduceIte, decide_eq_true_eq, reduceCtorEq, Nat.reduceEqDiff, Nat.reduceLT, Nat.reduceLeDiff, Nat.reduceAdd, Nat.reduceSub, Nat.reduceMul, Nat.reduceGT, Int.reduceNeg, Int.reduceToNat, and_true, true_and, and_false, false_and, List.getElem?_toArray, List.getElem?_cons_zero, List.getElem?_cons_succ, List.cons_append, List.nil_append, if_true, if_false, Option.getD_some, Option.isSome_some, Bool.false_eq_true, List.append_nil, List.drop_zero, List.drop_succ_cons, Bool.cond_false_right, Bool.cond_false_left, Bool.cond_true_left, Bool.cond_true_right, ite_self, Bool.not_true, Bool.not_false, cond_true, cond_false, List.size_toArray, implies_true, true_implies, false_implies, List.all_cons, List.all_nil, List.nodup_cons, List.nodup_nil, List.mem_cons, List.not_mem_nil, or_false, false_or, not_false_eq_true, decide_true, Bool.and_true, Bool.and_self, envAt, F1, F2, F7, z1, z2, z3, z4, z5, z6, z7, z8, z9, z10, z11, z12, z13, z14, z15, z16, z17, z18, z19, z20, z21, z22, z23, z24, z25, z26, z27, z28, z29, z30]
    refine wpA_sound _ _ _ _ ?_
    simp only [go_sem, ↓reduceIte, decide_eq_true_eq, reduceCtorEq, Nat.reduceEqDiff, Nat.reduceLT, Nat.reduceLeDiff, Nat.reduceAdd, Nat.reduceSub, Nat.reduceMul, Nat.reduceGT, Int.reduceNeg, Int.reduceToNat, and_true, true_and, and_false, false_and, List.getElem?_toArray, List.getElem?_cons_zero, List.getElem?_cons_succ, List.cons_append, List.nil_append, if_true, if_false, Option.getD_some, Option.isSome_some, Bool.false_eq_true, List.append_nil, List.drop_zero, List.drop_succ_cons, Bool.cond_false_right, Bool.cond_false_left, Bool.cond_true_left, Bool.cond_true_right, ite_self, Bool.not_true, Bool.not_false, cond_true, cond_false, List.size_toArray, implies_true, true_implies, false_implies, List.all_cons, List.all_nil, List.nodup_cons, List.nodup_nil, List.mem_cons, List.not_mem_nil, or_false, false_or, not_false_eq_true, decide_true, Bool.and_true, Bool.and_self, F1, F2, F7, hc, z1, z2, z3, z4, z5, z6, z7, z8, z9, z10, z11, z12, z13, z14, z15, z16, z17, z18, z19, z20, z21, z22, z23, z24, z25, z26, z27, z28, z29, z30]
    refine hkeep X2 _ _ _ (Es.at_ l (i : Int)) _ _ _ _ (fun f j hf => by rw [set_ne (by omega), set_ne (by omega), hs2 f j (by omega)]; exact hJ.old f j hf) hok hS ?_
    simp only [go_sem, ↓reduceIte, decide_eq_true_eq, reduceCtorEq, Nat.reduceEqDiff, Nat.reduceLT, Nat.reduceLeDiff, Nat.reduceAdd, Nat.reduceSub, Nat.reduceMul, Nat.reduceGT, Int.reduceNeg, Int.reduceToNat, and_true, true_and, and_false, false_and, List.getElem?_toArray, List.getElem?_cons_zero, List.getElem?_cons_succ, List.cons_append, List.nil_append, if_true, if_false, Option.getD_some, Option.isSome_some, Bool.false_eq_true, List.append_nil, List.drop_zero, List.drop_succ_cons, Bool.cond_false_right, Bool.cond_false_left, Bool.cond_true_left, Bool.cond_true_right, ite_self, Bool.not_true, Bool.not_false, cond_true, cond_false, List.size_toArray, implies_true, true_implies, false_implies, List.all_cons, List.all_nil, List.nodup_cons, List.nodup_nil, List.mem_cons, List.not_mem_nil, or_false, false_or, not_false_eq_true, decide_true, Bool.and_true, Bool.and_self, F1, F2, F7, hc, hcell, z1, z2, z3, z4, z5, z6, z7, z8, z9, z10, z11, z12, z13, z14, z15, z16, z17, z18, z19, z20, z21, z22, z23, z24, z25, z26, z27, z28, z29, z30]
    refine ite_cases (fun hkb => ?_) (fun hkb => ?_)
    · rw [if_pos hkb] at hnext
      rcases hO with ⟨hn, rfl⟩ | ⟨f, cl, rfl, hf1, hf2, hf3, hf4⟩
      · simp only [go_sem, ↓reduceIte, decide_eq_true_eq, reduceCtorEq, Nat.reduceEqDiff, Nat.reduceLT, Nat.reduceLeDiff, Nat.reduceAdd, Nat.reduceSub, Nat.reduceMul, Nat.reduceGT, Int.reduceNeg, Int.reduceToNat, and_true, true_and, and_false, false_and, List.getElem?_toArray, List.getElem?_cons_zero, List.getElem?_cons_succ, List.cons_append, List.nil_append, if_true, if_false, Option.getD_some, Option.isSome_some, Bool.false_eq_true, List.append_nil, List.drop_zero, List.drop_succ_cons, Bool.cond_false_right, Bool.cond_false_left, Bool.cond_true_left, Bool.cond_true_right, ite_self, Bool.not_true, Bool.not_false, cond_true, cond_false, List.size_toArray, implies_true, true_implies, false_implies, List.all_cons, List.all_nil, List.nodup_cons, List.nodup_nil, List.mem_cons, List.not_mem_nil, or_false, false_or, not_false_eq_true, decide_true, Bool.and_true, Bool.and_self, F1, F2, F7, hc, hcell, z1, z2, z3, z4, z5, z6, z7, z8, z9, z10, z11, z12, z13, z14, z15, z16, z17, z18, z19, z20, z21, z22, z23, z24, z25, z26, z27, z28, z29, z30]
        refine ⟨FiJ.next hJ (by omega) set_eq (fun f j h1 h2 h3 => ?_) ⟨.ms (n1 + 1 + 1 + 1) 0 1 0 1, _, (set_ne (by omega)).trans set_eq, rfl, OutIs.mk' ?_ (by omega) (by simp only; omega) ((set_ne (by omega)).trans ((set_ne (by omega)).trans set_eq)) ?_⟩, by omega, by (repeat rw [if_neg (by omega)]), by (repeat rw [if_neg (by omega)])⟩
        · rw [set_ne (by omega), set_ne (by omega), set_ne (by omega), set_ne (by omega), set_ne (by omega), set_ne (by omega)]; exact hs2 f j (by omega)
        · rw [hnext, hn]; rfl
        · rw [hnext, hn]
          exact out_app (l := []) (fun r h => by simp at h) rfl
      · simp only at hf2 hf3
        have F8 : o2 f 0 = _ := (hs2 f 0 hf2).trans hf3
        have hkl : (Es.kept c ps (l.take i) (Es.start c)).length ≤ l.length := Nat.le_trans (Es.kept_len (by rw [← Es.runL_goes]; exact hrun)) (by rw [List.length_take]; omega)
        have w1 : (f = nx + 1 + 1) = False := e0 (by omega); have w2 : (f = nx + 1 + 1 + 1 + 1 + 1 + 1 + 1) = False := e0 (by omega); have w3 : (f = n1 + 1) = False := e0 (by omega); have w4 : (f = n1 + 1 + 1) = False := e0 (by omega); have w5 : (f = n1 + 1 + 1 + 1) = False := e0 (by omega); have w6 : (nx + 1 + 1 = f) = False := e0 (by omega); have w7 : (nx + 1 + 1 = nx + 1 + 1 + 1 + 1 + 1 + 1 + 1) = False := e0 (by omega); have w8 : (nx + 1 + 1 = n1 + 1) = False := e0 (by omega); have w9 : (nx + 1 + 1 = n1 + 1 + 1) = False := e0 (by omega); have w10 : (nx + 1 + 1 = n1 + 1 + 1 + 1) = False := e0 (by omega); have w11 : (nx + 1 + 1 + 1 + 1 + 1 + 1 + 1 = f) = False := e0 (by omega); have w12 : (nx + 1 + 1 + 1 + 1 + 1 + 1 + 1 = nx + 1 + 1) = False := e0 (by omega); have w13 : (nx + 1 + 1 + 1 + 1 + 1 + 1 + 1 = n1 + 1) = False := e0 (by omega); have w14 : (nx + 1 + 1 + 1 + 1 + 1 + 1 + 1 = n1 + 1 + 1) = False := e0 (by omega); have w15 : (nx + 1 + 1 + 1 + 1 + 1 + 1 + 1 = n1 + 1 + 1 + 1) = False := e0 (by omega); have w16 : (n1 + 1 = f) = False := e0 (by omega); have w17 : (n1 + 1 = nx + 1 + 1) = False := e0 (by omega); have w18 : (n1 + 1 = nx + 1 + 1 + 1 + 1 + 1 + 1 + 1) = False := e0 (by omega); have w19 : (n1 + 1 = n1 + 1 + 1) = False := e0 (by omega); have w20 : (n1 + 1 = n1 + 1 + 1 + 1) = False := e0 (by omega); have w21 : (n1 + 1 + 1 = f) = False := e0 (by omega); have w22 : (n1 + 1 + 1 = nx + 1 + 1) = False := e0 (by omega); have w23 : (n1 + 1 + 1 = nx + 1 + 1 + 1 + 1 + 1 + 1 + 1) = False := e0 (by omega); have w24 : (n1 + 1 + 1 = n1 + 1) = False := e0 (by omega); have w25 : (n1 + 1 + 1 = n1 + 1 + 1 + 1) = False := e0 (by omega); have w26 : (n1 + 1 + 1 + 1 = f) = False := e0 (by omega); have w27 : (n1 + 1 + 1 + 1 = nx + 1 + 1) = False := e0 (by omega); have w28 : (n1 + 1 + 1 + 1 = nx + 1 + 1 + 1 + 1 + 1 + 1 + 1) = False := e0 (by omega); have w29 : (n1 + 1 + 1 + 1 = n1 + 1) = False := e0 (by omega); have w30 : (n1 + 1 + 1 + 1 = n1 + 1 + 1) = False := e0 (by omega)
        simp only [go_sem, ↓reduceIte, decide_eq_true_eq, reduceCtorEq, Nat.reduceEqDiff, Nat.reduceLT, Nat.reduceLeDiff, Nat.reduceAdd, Nat.reduceSub, Nat.reduceMul, Nat.reduceGT, Int.reduceNeg, Int.reduceToNat, and_true, true_and, and_false, false_and, List.getElem?_toArray, List.getElem?_cons_zero, List.getElem?_cons_succ, List.cons_append, List.nil_append, if_true, if_false, Option.getD_some, Option.isSome_some, Bool.false_eq_true, List.append_nil, List.drop_zero, List.drop_succ_cons, Bool.cond_false_right, Bool.cond_false_left, Bool.cond_true_left, Bool.cond_true_right, ite_self, Bool.not_true, Bool.not_false, cond_true, cond_false, List.size_toArray, implies_true, true_implies, false_implies, List.all_cons, List.all_nil, List.nodup_cons, List.nodup_nil, List.mem_cons, List.not_mem_nil, or_false, false_or, not_false_eq_true, decide_true, Bool.and_true, Bool.and_self, F1, F2, F7, F8, hc, hcell, z1, z2, z3, z4, z5, z6, z7, z8, z9, z10, z11, z12, z13, z14, z15, z16, z17, z18, z19, z20, z21, z22, z23, z24, z25, z26, z27, z28, z29, z30, w1, w2, w3, w4, w5, w6, w7, w8, w9, w10, w11, w12, w13, w14, w15, w16, w17, w18, w19, w20, w21, w22, w23, w24, w25, w26, w27, w28, w29, w30]
        refine ⟨⟨by omega, by omega⟩, FiJ.next hJ (by omega) set_eq (fun f' j h1 h2 h3 => ?_) ⟨.ms (n1 + 1 + 1 + 1) 0 1 0 ((Es.kept c ps (l.take i) (Es.start c)).length + 1), _, (set_ne (by omega)).trans set_eq, rfl, OutIs.mk' ?_ (by omega) (by simp only; omega) ((set_ne (by omega)).trans ((set_ne (by omega)).trans set_eq)) ?_⟩, by omega, by (repeat rw [if_neg (by omega)]), by (repeat rw [if_neg (by omega)])⟩
        · rw [set_ne (by omega), set_ne (by omega), set_ne (by omega), set_ne (by omega), set_ne (by omega), set_ne (by omega), set_ne (by omega)]; exact hs2 f' j (by omega)
        · rw [hnext, List.length_append]; rfl
        · rw [hnext]
          exact out_app hf4 rfl
    · rw [if_neg hkb, List.append_nil] at hnext
      refine ⟨FiJ.next hJ (by omega) set_eq (fun f j h1 h2 h3 => ?_) ⟨d, cell, ?_, hcell, ?_⟩, by omega, by (repeat rw [if_neg (by omega)]), by (repeat rw [if_neg (by omega)])⟩
      · rw [set_ne (by omega), set_ne (by omega)]; exact hs2 f j (by omega)
      · rw [set_ne (by omega), set_ne (by omega)]; exact F2
      · rw [hnext]
        rcases hO with hO | ⟨f, cl, g1, g2, g3, g4, g5⟩
        · exact .inl hO
        · simp only at g3 g4
          exact .inr ⟨f, cl, g1, g2, by simp only; omega, by simp only; rw [set_ne (by omega), set_ne (by omega), hs2 f 0 g3]; exact g4, g5⟩
  · dsimp only
    have hd : ∀ {f g : Nat} {B : Option SObj} {o : St}, f ≠ g → ∀ {x}, o f 0 = x → St.set o g 0 B f 0 = x := fun h _ hx => (set_ne h).trans hx
    refine ⟨Nat.le_refl _, fun f j hf => ?_, ?_, ⟨.v (.slice none 0 0), rowOf [.v (.slice none 0 0)], ?_, rfl, .inl ⟨rfl, rfl⟩⟩, ⟨rowOf [.v (.int .i64 0)], ?_⟩, ?_, ?_, ?_, set_eq⟩
    · simp only; (repeat rw [set_ne (by omega)])
    all_goals
      simp only
      first
        | (rw [set_ne (by omega), set_ne (by omega), set_ne (by omega), set_ne (by omega), set_ne (by omega), set_ne (by omega)]; exact set_eq)
        | (rw [set_ne (by omega), set_ne (by omega), set_ne (by omega), set_ne (by omega), set_ne (by omega)]; exact set_eq)
        | (rw [set_ne (by omega), set_ne (by omega), set_ne (by omega), set_ne (by omega)]; exact set_eq)
        | (rw [set_ne (by omega), set_ne (by omega), set_ne (by omega)]; exact set_eq)
        | (rw [set_ne (by omega), set_ne (by omega)]; exact set_eq)
        | (rw [set_ne (by omega)]; exact set_eq)
  · intro i o3 n3 cell hi hJ hce hend
    have hrec : o3 (nx + 7) 0 = some rd := hJ.rcd
    obtain ⟨d, cl, hout, hcell, hO⟩ := hJ.out
    have G2 : o3 (nx + 1 + 1) 0 = some (.blk 1 1 22 cl) := hout
    have y1 : (nx + 1 + 1 = nx + 3) = False := e0 (by omega)
    have y2 : (nx + 1 + 1 = nx + 7) = False := e0 (by omega)
    have y3 : (nx + 1 + 1 + 1 = nx + 7) = False := e0 (by omega)
    refine .inl ⟨(set_ne (by show nx + 7 ≠ nx + 3; omega)).trans hrec, ?_⟩
    have y4 : (nx = nx + 4) = False := e0 (by omega)
    have y5 : (nx = nx + 5) = False := e0 (by omega)
    simp only [go_sem, ↓reduceIte, decide_eq_true_eq, reduceCtorEq, Nat.reduceEqDiff, Nat.reduceLT, Nat.reduceLeDiff, Nat.reduceAdd, Nat.reduceSub, Nat.reduceMul, Nat.reduceGT, Int.reduceNeg, Int.reduceToNat, and_true, true_and, and_false, false_and, List.getElem?_toArray, List.getElem?_cons_zero, List.getElem?_cons_succ, List.cons_append, List.nil_append, if_true, if_false, Option.getD_some, Option.isSome_some, Bool.false_eq_true, List.append_nil, List.drop_zero, List.drop_succ_cons, Bool.cond_false_right, Bool.cond_false_left, Bool.cond_true_left, Bool.cond_true_right, ite_self, Bool.not_true, Bool.not_false, cond_true, cond_false, List.size_toArray, implies_true, true_implies, false_implies, List.all_cons, List.all_nil, List.nodup_cons, List.nodup_nil, List.mem_cons, List.not_mem_nil, or_false, false_or, not_false_eq_true, decide_true, Bool.and_true, Bool.and_self, G2, hce, hcell, q1, q2, q3, y1, y2, y3, y4, y5]
    refine ite_cases (fun he => ?_) (fun he => ?_)
    · refine awp_plan ((.op 0 (.op 1 (.op 2 .done)))) [] mix (by kernel_rfl) ?_
      simp only [go_sem, ↓reduceIte, decide_eq_true_eq, reduceCtorEq, Nat.reduceEqDiff, Nat.reduceLT, Nat.reduceLeDiff, Nat.reduceAdd, Nat.reduceSub, Nat.reduceMul, Nat.reduceGT, Int.reduceNeg, Int.reduceToNat, and_true, true_and, and_false, false_and, List.getElem?_toArray, List.getElem?_cons_zero, List.getElem?_cons_succ, List.cons_append, List.nil_append, if_true, if_false, Option.getD_some, Option.isSome_some, Bool.false_eq_true, List.append_nil, List.drop_zero, List.drop_succ_cons, Bool.cond_false_right, Bool.cond_false_left, Bool.cond_true_left, Bool.cond_true_right, ite_self, Bool.not_true, Bool.not_false, cond_true, cond_false, List.size_toArray, implies_true, true_implies, false_implies, List.all_cons, List.all_nil, List.nodup_cons, List.nodup_nil, List.mem_cons, List.not_mem_nil, or_false, false_or, not_false_eq_true, decide_true, Bool.and_true, Bool.and_self, G2, hce, hcell, q1, q2, q3, y1, y2, y3, y4, y5]
      exact hk1 (by simpa using he) _ _
    · have h0 : (Es.runL c l).2 = 0 := by simpa using he
      refine hk0 h0 _ _ _ ?_
      have hil := hend h0
      subst hil
      rw [List.take_length] at hO
      refine hO.fz fun f j hf => ?_
      rw [set_ne (by omega), set_ne (by omega)]
theorem fz_nil (s : S) (e : Int) : Fz s (.tup [.v (.slice none 0 0), .v (.int .i64 e)]) (.tup [slD 1 intC [], .v (.int .i64 e)]) := Fz_tup ⟨.nil _ _, .v _, trivial⟩
theorem fz_err {s : S} {x : List Int × Int} {e : Int} (h : x = ([], e)) : Fz s (.tup [.v (.slice none 0 0), .v (.int .i64 e)]) (.tup [slD 1 intC x.1, .v (.int .i64 x.2)]) := by
  subst h; exact fz_nil s e
def resL (x : List Int × Int) : D := .tup [slD 1 intC x.1, .v (.int .i64 x.2)]
@[go_sem] theorem resL_eq (x : List Int × Int) : resL x = .tup [slD 1 intC x.1, .v (.int .i64 x.2)] := nr rfl
theorem joint_spec (c : Es.Contract) (l ps : List Int) (hf : Es.Fits c) (hl : l.length ≤ 1000000) (hp : ps.length ≤ 1000000) : APure M 16 [conD c, slD 1 intC l, slD 1 intC ps] (resL (Es.joint c l ps)) := by
  have hcall : callable prog 39 = true := by simp only [go_sem]
  have hcall2 : callable prog 41 = true := by simp only [go_sem]
  have hcon := containsI_spec 39 [.rp 7 (conC c) 0] hcall ⟨pu_rp (pu_conC c), trivial⟩ (fun p => decide (p < 0) || decide (c.parties ≤ p)) ps (by omega) (fun x _ => joint1_spec c x)
  refine pure_of gpu func16 rfl results16 ntmps16 (by simp) ⟨pu_conD _, pu_slD pu_intC _, pu_slD pu_intC _, trivial⟩ ?_
  intro b
  simp only [go_sem, ↓reduceIte, decide_eq_true_eq, reduceCtorEq, Nat.reduceEqDiff, Nat.reduceLT, Nat.reduceLeDiff, Nat.reduceAdd, Nat.reduceSub, Nat.reduceMul, Nat.reduceGT, Int.reduceNeg, Int.reduceToNat, and_true, true_and, and_false, false_and, List.getElem?_toArray, List.getElem?_cons_zero, List.getElem?_cons_succ, List.cons_append, List.nil_append, if_true, if_false, Option.getD_some, Option.isSome_some, Bool.false_eq_true, List.append_nil, List.drop_zero, List.drop_succ_cons, Bool.cond_false_right, Bool.cond_false_left, Bool.cond_true_left, Bool.cond_true_right, ite_self, Bool.not_true, Bool.not_false, cond_true, cond_false, List.size_toArray, implies_true, true_implies, false_implies, List.all_cons, List.all_nil, List.nodup_cons, List.nodup_nil, List.mem_cons, List.not_mem_nil, or_false, false_or, not_false_eq_true, decide_true, Bool.and_true, Bool.and_self]
  repeat' (first | ((with_reducible refine call_at M_P M_G (start_spec c hf) ?_); simp only [go_sem, ↓reduceIte, decide_eq_true_eq, reduceCtorEq, Nat.reduceEqDiff, Nat.reduceLT, Nat.reduceLeDiff, Nat.reduceAdd, Nat.reduceSub, Nat.reduceMul, Nat.reduceGT, Int.reduceNeg, Int.reduceToNat, and_true, true_and, and_false, false_and, List.getElem?_toArray, List.getElem?_cons_zero, List.getElem?_cons_succ, List.cons_append, List.nil_append, if_true, if_false, Option.getD_some, Option.isSome_some, Bool.false_eq_true, List.append_nil, List.drop_zero, List.drop_succ_cons, Bool.cond_false_right, Bool.cond_false_left, Bool.cond_true_left, Bool.cond_true_right, ite_self, Bool.not_true, Bool.not_false, cond_true, cond_false, List.size_toArray, implies_true, true_implies, false_implies, List.all_cons, List.all_nil, List.nodup_cons, List.nodup_nil, List.mem_cons, List.not_mem_nil, or_false, false_or, not_false_eq_true, decide_true, Bool.and_true, Bool.and_self]) | ((with_reducible apply lend_at M_P M_G (hcon) gpu (Flat.v _)); (exact ⟨(pu_slD pu_intC _).fz, Fz_fn ⟨fz_con rfl (by decide), trivial⟩, trivial⟩); simp only [go_sem, ↓reduceIte, decide_eq_true_eq, reduceCtorEq, Nat.reduceEqDiff, Nat.reduceLT, Nat.reduceLeDiff, Nat.reduceAdd, Nat.reduceSub, Nat.reduceMul, Nat.reduceGT, Int.reduceNeg, Int.reduceToNat, and_true, true_and, and_false, false_and, List.getElem?_toArray, List.getElem?_cons_zero, List.getElem?_cons_succ, List.cons_append, List.nil_append, if_true, if_false, Option.getD_some, Option.isSome_some, Bool.false_eq_true, List.append_nil, List.drop_zero, List.drop_succ_cons, Bool.cond_false_right, Bool.cond_false_left, Bool.cond_true_left, Bool.cond_true_right, ite_self, Bool.not_true, Bool.not_false, cond_true, cond_false, List.size_toArray, implies_true, true_implies, false_implies, List.all_cons, List.all_nil, List.nodup_cons, List.nodup_nil, List.mem_cons, List.not_mem_nil, or_false, false_or, not_false_eq_true, decide_true, Bool.and_true, Bool.and_self]) | (with_reducible refine And.intro ?_ ?_) | ((with_reducible refine ite_cases ?_ ?_) <;> intro _))
  all_goals first
    | (refine fz_err ?_; unfold Es.joint; simp_all; done)
    | skip
  have hst : (Es.start c).2 = 0 := by simp_all
  have hj : Es.joint c l ps = if (Es.runL c l).2 == 0 then (Es.kept c ps l (Es.start c), 0) else ([], (Es.runL c l).2) := by
    unfold Es.joint
    rw [if_neg (by simp_all), if_neg (by simp_all), if_neg (by simp_all)]
  refine filter_spec _ _ _ _ c l ps 41 _ hcall2 _ _ ?_ hf hl hst _ ?_ ?_
  · intro X N r b k s o2 nx2 K ho hok hs hK
    exact lend_at M_P M_G (joint2_spec c s ps k hf hp hok hs) gpu (.v _) ⟨.v _, (pu_staD s).fz, fz_box (ho 1 0 (by omega)) (by decide) (fun j hj => by obtain rfl : j = 0 := (by omega); exact ⟨rfl, pu_slD pu_intC _⟩), fz_con (ho 0 0 (by omega)) (by decide), trivial⟩ hK
  · intro hrun d o' nx' hz
    simp only [go_sem, ↓reduceIte, decide_eq_true_eq, reduceCtorEq, Nat.reduceEqDiff, Nat.reduceLT, Nat.reduceLeDiff, Nat.reduceAdd, Nat.reduceSub, Nat.reduceMul, Nat.reduceGT, Int.reduceNeg, Int.reduceToNat, and_true, true_and, and_false, false_and, List.getElem?_toArray, List.getElem?_cons_zero, List.getElem?_cons_succ, List.cons_append, List.nil_append, if_true, if_false, Option.getD_some, Option.isSome_some, Bool.false_eq_true, List.append_nil, List.drop_zero, List.drop_succ_cons, Bool.cond_false_right, Bool.cond_false_left, Bool.cond_true_left, Bool.cond_true_right, ite_self, Bool.not_true, Bool.not_false, cond_true, cond_false, List.size_toArray, implies_true, true_implies, false_implies, List.all_cons, List.all_nil, List.nodup_cons, List.nodup_nil, List.mem_cons, List.not_mem_nil, or_false, false_or, not_false_eq_true, decide_true, Bool.and_true, Bool.and_self]
    rw [hj, if_pos (by simpa using hrun)]
    exact Fz_tup ⟨hz, .v _, trivial⟩
  · intro hrun o' nx'
    simp only [go_sem, ↓reduceIte, decide_eq_true_eq, reduceCtorEq, Nat.reduceEqDiff, Nat.reduceLT, Nat.reduceLeDiff, Nat.reduceAdd, Nat.reduceSub, Nat.reduceMul, Nat.reduceGT, Int.reduceNeg, Int.reduceToNat, and_true, true_and, and_false, false_and, List.getElem?_toArray, List.getElem?_cons_zero, List.getElem?_cons_succ, List.cons_append, List.nil_append, if_true, if_false, Option.getD_some, Option.isSome_some, Bool.false_eq_true, List.append_nil, List.drop_zero, List.drop_succ_cons, Bool.cond_false_right, Bool.cond_false_left, Bool.cond_true_left, Bool.cond_true_right, ite_self, Bool.not_true, Bool.not_false, cond_true, cond_false, List.size_toArray, implies_true, true_implies, false_implies, List.all_cons, List.all_nil, List.nodup_cons, List.nodup_nil, List.mem_cons, List.not_mem_nil, or_false, false_or, not_false_eq_true, decide_true, Bool.and_true, Bool.and_self]
    refine fz_err ?_
    rw [hj, if_neg (by simpa using hrun)]
theorem view_spec (c : Es.Contract) (l : List Int) (p : Int) (hf : Es.Fits c) (hl : l.length ≤ 1000000) : APure M 18 [conD c, slD 1 intC l, .v (.int .i64 p)] (resL (Es.view c l p)) := by
  refine pure_of gpu func18 rfl results18 ntmps18 (by simp) ⟨pu_conD _, pu_slD pu_intC _, .v _, trivial⟩ ?_
  intro b
  simp only [go_sem, ↓reduceIte, decide_eq_true_eq, reduceCtorEq, Nat.reduceEqDiff, Nat.reduceLT, Nat.reduceLeDiff, Nat.reduceAdd, Nat.reduceSub, Nat.reduceMul, Nat.reduceGT, Int.reduceNeg, Int.reduceToNat, and_true, true_and, and_false, false_and, List.getElem?_toArray, List.getElem?_cons_zero, List.getElem?_cons_succ, List.cons_append, List.nil_append, if_true, if_false, Option.getD_some, Option.isSome_some, Bool.false_eq_true, List.append_nil, List.drop_zero, List.drop_succ_cons, Bool.cond_false_right, Bool.cond_false_left, Bool.cond_true_left, Bool.cond_true_right, ite_self, Bool.not_true, Bool.not_false, cond_true, cond_false, List.size_toArray, implies_true, true_implies, false_implies, List.all_cons, List.all_nil, List.nodup_cons, List.nodup_nil, List.mem_cons, List.not_mem_nil, or_false, false_or, not_false_eq_true, decide_true, Bool.and_true, Bool.and_self]
  refine acall_freeze (f := 1) (k := 1) (n := 1) (cell' := rowsOf intC [p]) (args' := [conD c, slD 1 intC l, slD 1 intC [p]]) rfl (fun r j hr hj => by
    obtain rfl : j = 0 := by omega
    obtain rfl : r = 0 := by omega
    rfl) ⟨.inl rfl, .inl rfl, .inr ⟨rfl, rfl⟩, trivial⟩ ?_
  refine call_at M_P M_G (joint_spec c l [p] hf hl (by simp)) ?_
  simp only [go_sem, ↓reduceIte, decide_eq_true_eq, reduceCtorEq, Nat.reduceEqDiff, Nat.reduceLT, Nat.reduceLeDiff, Nat.reduceAdd, Nat.reduceSub, Nat.reduceMul, Nat.reduceGT, Int.reduceNeg, Int.reduceToNat, and_true, true_and, and_false, false_and, List.getElem?_toArray, List.getElem?_cons_zero, List.getElem?_cons_succ, List.cons_append, List.nil_append, if_true, if_false, Option.getD_some, Option.isSome_some, Bool.false_eq_true, List.append_nil, List.drop_zero, List.drop_succ_cons, Bool.cond_false_right, Bool.cond_false_left, Bool.cond_true_left, Bool.cond_true_right, ite_self, Bool.not_true, Bool.not_false, cond_true, cond_false, List.size_toArray, implies_true, true_implies, false_implies, List.all_cons, List.all_nil, List.nodup_cons, List.nodup_nil, List.mem_cons, List.not_mem_nil, or_false, false_or, not_false_eq_true, decide_true, Bool.and_true, Bool.and_self]
  exact Fz_tup ⟨(pu_slD pu_intC _).fz, .v _, trivial⟩
end Tryd
end Go.Proofs
end
section
namespace Go.Proofs
open Go Go.Abs
set_option linter.unusedSimpArgs false
set_option linter.unusedVariables false
set_option maxRecDepth 10000
namespace Tryd
theorem ints_spec (u w : List Int) (ha : u.length ≤ 1000000) : APure M 17 [slD 1 intC u, slD 1 intC w] (.v (.bool (Es.ints u w))) := by
  refine pure_of gpu func17 rfl results17 ntmps17 (by simp) ⟨pu_slD pu_intC _, pu_slD pu_intC _, trivial⟩ ?_
  intro b
  simp only [go_sem, ↓reduceIte, decide_eq_true_eq, reduceCtorEq, Nat.reduceEqDiff, Nat.reduceLT, Nat.reduceLeDiff, Nat.reduceAdd, Nat.reduceSub, Nat.reduceMul, Nat.reduceGT, Int.reduceNeg, Int.reduceToNat, and_true, true_and, and_false, false_and, List.getElem?_toArray, List.getElem?_cons_zero, List.getElem?_cons_succ, List.cons_append, List.nil_append, if_true, if_false, Option.getD_some, Option.isSome_some, Bool.false_eq_true, List.append_nil, List.drop_zero, List.drop_succ_cons, Bool.cond_false_right, Bool.cond_false_left, Bool.cond_true_left, Bool.cond_true_right, ite_self, Bool.not_true, Bool.not_false, cond_true, cond_false, List.size_toArray, implies_true, true_implies, false_implies, List.all_cons, List.all_nil, List.nodup_cons, List.nodup_nil, List.mem_cons, List.not_mem_nil, or_false, false_or, not_false_eq_true, decide_true, Bool.and_true, Bool.and_self]
  refine ite_cases (fun hne => ?_) (fun hne => ?_)
  · refine congrArg Value.bool ?_
    have : u ≠ w := fun h => by subst h; simp at hne
    simp [Es.ints, this]
  have hlen : u.length = w.length := by have hh := hne; simp [Es.len] at hh; omega
  refine awp_count0 u.length (fun e0 s0 k e st => (e 0 = e0 0 ∧ e 1 = e0 1) ∧ e 5 = .v (.int .i64 k) ∧ st = s0 ∧ ∀ j : Nat, j < k → Es.at_ u (j : Int) = Es.at_ w (j : Int)) ⟨⟨rfl, rfl⟩, ?_, rfl, (by omega)⟩ ?_
  · simp only [go_sem, ↓reduceIte, decide_eq_true_eq, reduceCtorEq, Nat.reduceEqDiff, Nat.reduceLT, Nat.reduceLeDiff, Nat.reduceAdd, Nat.reduceSub, Nat.reduceMul, Nat.reduceGT, Int.reduceNeg, Int.reduceToNat, and_true, true_and, and_false, false_and, List.getElem?_toArray, List.getElem?_cons_zero, List.getElem?_cons_succ, List.cons_append, List.nil_append, if_true, if_false, Option.getD_some, Option.isSome_some, Bool.false_eq_true, List.append_nil, List.drop_zero, List.drop_succ_cons, Bool.cond_false_right, Bool.cond_false_left, Bool.cond_true_left, Bool.cond_true_right, ite_self, Bool.not_true, Bool.not_false, cond_true, cond_false, List.size_toArray, implies_true, true_implies, false_implies, List.all_cons, List.all_nil, List.nodup_cons, List.nodup_nil, List.mem_cons, List.not_mem_nil, or_false, false_or, not_false_eq_true, decide_true, Bool.and_true, Bool.and_self]; rfl
  rintro k e st hk ⟨⟨a0, a1⟩, a5, rfl, hall⟩
  simp only [go_sem, ↓reduceIte, decide_eq_true_eq, reduceCtorEq, Nat.reduceEqDiff, Nat.reduceLT, Nat.reduceLeDiff, Nat.reduceAdd, Nat.reduceSub, Nat.reduceMul, Nat.reduceGT, Int.reduceNeg, Int.reduceToNat, and_true, true_and, and_false, false_and, List.getElem?_toArray, List.getElem?_cons_zero, List.getElem?_cons_succ, List.cons_append, List.nil_append, if_true, if_false, Option.getD_some, Option.isSome_some, Bool.false_eq_true, List.append_nil, List.drop_zero, List.drop_succ_cons, Bool.cond_false_right, Bool.cond_false_left, Bool.cond_true_left, Bool.cond_true_right, ite_self, Bool.not_true, Bool.not_false, cond_true, cond_false, List.size_toArray, implies_true, true_implies, false_implies, List.all_cons, List.all_nil, List.nodup_cons, List.nodup_nil, List.mem_cons, List.not_mem_nil, or_false, false_or, not_false_eq_true, decide_true, Bool.and_true, Bool.and_self] at a0 a1
  simp only [go_sem, ↓reduceIte, decide_eq_true_eq, reduceCtorEq, Nat.reduceEqDiff, Nat.reduceLT, Nat.reduceLeDiff, Nat.reduceAdd, Nat.reduceSub, Nat.reduceMul, Nat.reduceGT, Int.reduceNeg, Int.reduceToNat, and_true, true_and, and_false, false_and, List.getElem?_toArray, List.getElem?_cons_zero, List.getElem?_cons_succ, List.cons_append, List.nil_append, if_true, if_false, Option.getD_some, Option.isSome_some, Bool.false_eq_true, List.append_nil, List.drop_zero, List.drop_succ_cons, Bool.cond_false_right, Bool.cond_false_left, Bool.cond_true_left, Bool.cond_true_right, ite_self, Bool.not_true, Bool.not_false, cond_true, cond_false, List.size_toArray, implies_true, true_implies, false_implies, List.all_cons, List.all_nil, List.nodup_cons, List.nodup_nil, List.mem_cons, List.not_mem_nil, or_false, false_or, not_false_eq_true, decide_true, Bool.and_true, Bool.and_self, a0, a1, a5]
  refine ite_cases (fun hlt => ?_) (fun hlt => ?_)
  · have hlt' : k < u.length := Es.len_lt.1 hlt
    refine awp_plan ((.op 0 (.op 1 (.op 2 (.op 3 (.op 4 (.op 5 (.op 6 (.op 7 (.op 8 .done)))))))))) [] mix (by kernel_rfl) ?_
    simp only [go_sem, ↓reduceIte, decide_eq_true_eq, reduceCtorEq, Nat.reduceEqDiff, Nat.reduceLT, Nat.reduceLeDiff, Nat.reduceAdd, Nat.reduceSub, Nat.reduceMul, Nat.reduceGT, Int.reduceNeg, Int.reduceToNat, and_true, true_and, and_false, false_and, List.getElem?_toArray, List.getElem?_cons_zero, List.getElem?_cons_succ, List.cons_append, List.nil_append, if_true, if_false, Option.getD_some, Option.isSome_some, Bool.false_eq_true, List.append_nil, List.drop_zero, List.drop_succ_cons, Bool.cond_false_right, Bool.cond_false_left, Bool.cond_true_left, Bool.cond_true_right, ite_self, Bool.not_true, Bool.not_false, cond_true, cond_false, List.size_toArray, implies_true, true_implies, false_implies, List.all_cons, List.all_nil, List.nodup_cons, List.nodup_nil, List.mem_cons, List.not_mem_nil, or_false, false_or, not_false_eq_true, decide_true, Bool.and_true, Bool.and_self, a0, a1, a5]
    refine ⟨⟨by omega, hlt⟩, ⟨by omega, by simp only [Es.len]; omega⟩, ?_⟩
    refine ite_cases (fun he => ?_) (fun he => ?_)
    · have hd : ¬ Es.at_ u (k : Int) = Es.at_ w (k : Int) := by simpa using he
      have : u ≠ w := fun h => hd (by rw [h])
      simp [Es.ints, this]
    · have hd : Es.at_ u (k : Int) = Es.at_ w (k : Int) := by simpa using he
      refine ⟨hlt', ?_⟩
      simp only [go_sem, ↓reduceIte, decide_eq_true_eq, reduceCtorEq, Nat.reduceEqDiff, Nat.reduceLT, Nat.reduceLeDiff, Nat.reduceAdd, Nat.reduceSub, Nat.reduceMul, Nat.reduceGT, Int.reduceNeg, Int.reduceToNat, and_true, true_and, and_false, false_and, List.getElem?_toArray, List.getElem?_cons_zero, List.getElem?_cons_succ, List.cons_append, List.nil_append, if_true, if_false, Option.getD_some, Option.isSome_some, Bool.false_eq_true, List.append_nil, List.drop_zero, List.drop_succ_cons, Bool.cond_false_right, Bool.cond_false_left, Bool.cond_true_left, Bool.cond_true_right, ite_self, Bool.not_true, Bool.not_false, cond_true, cond_false, List.size_toArray, implies_true, true_implies, false_implies, List.all_cons, List.all_nil, List.nodup_cons, List.nodup_nil, List.mem_cons, List.not_mem_nil, or_false, false_or, not_false_eq_true, decide_true, Bool.and_true, Bool.and_self, a0, a1, a5]
      refine ⟨by rw [wrap_i64 _ (by omega) (by omega)]; simp, fun j hj => ?_⟩
      rcases Nat.lt_or_ge j k with h | h
      · exact hall j h
      · have : j = k := by omega
        rw [this]; exact hd
  · have hkk : k = u.length := by simp only [Es.len] at hlt; omega
    have : u = w := List.ext_getElem hlen fun i h1 h2 => by
      have := hall i (by omega)
      rwa [Es.at_nat h1, Es.at_nat h2] at this
    simp [Es.ints, this]
theorem wIn_spec (u w : List Int) (ha : u.length ≤ 1000000) (hb : w.length ≤ 1000000) : APure M 19 [slD 1 intC u, slD 1 intC w] (.v (.bool (Es.wIn u w))) := by
  refine pure_of gpu func19 rfl results19 ntmps19 (by simp) ⟨pu_slD pu_intC _, pu_slD pu_intC _, trivial⟩ ?_
  intro b
  simp only [go_sem, ↓reduceIte, decide_eq_true_eq, reduceCtorEq, Nat.reduceEqDiff, Nat.reduceLT, Nat.reduceLeDiff, Nat.reduceAdd, Nat.reduceSub, Nat.reduceMul, Nat.reduceGT, Int.reduceNeg, Int.reduceToNat, and_true, true_and, and_false, false_and, List.getElem?_toArray, List.getElem?_cons_zero, List.getElem?_cons_succ, List.cons_append, List.nil_append, if_true, if_false, Option.getD_some, Option.isSome_some, Bool.false_eq_true, List.append_nil, List.drop_zero, List.drop_succ_cons, Bool.cond_false_right, Bool.cond_false_left, Bool.cond_true_left, Bool.cond_true_right, ite_self, Bool.not_true, Bool.not_false, cond_true, cond_false, List.size_toArray, implies_true, true_implies, false_implies, List.all_cons, List.all_nil, List.nodup_cons, List.nodup_nil, List.mem_cons, List.not_mem_nil, or_false, false_or, not_false_eq_true, decide_true, Bool.and_true, Bool.and_self]
  refine awp_count0 w.length (fun e0 s0 k e st => (e 0 = e0 0 ∧ e 1 = e0 1) ∧ (∃ i : Nat, i ≤ u.length ∧ e 5 = .v (.int .i64 i) ∧ Es.wI u w = (w.drop k).foldl (fun i y => if decide (i < u.length) && Es.at_ u (i : Int) == y then i + 1 else i) i) ∧ e 6 = .v (.int .i64 k) ∧ st = s0) ⟨⟨rfl, rfl⟩, ⟨0, Nat.zero_le _, ?_, rfl⟩, ?_, rfl⟩ ?_
  · simp only [go_sem, ↓reduceIte, decide_eq_true_eq, reduceCtorEq, Nat.reduceEqDiff, Nat.reduceLT, Nat.reduceLeDiff, Nat.reduceAdd, Nat.reduceSub, Nat.reduceMul, Nat.reduceGT, Int.reduceNeg, Int.reduceToNat, and_true, true_and, and_false, false_and, List.getElem?_toArray, List.getElem?_cons_zero, List.getElem?_cons_succ, List.cons_append, List.nil_append, if_true, if_false, Option.getD_some, Option.isSome_some, Bool.false_eq_true, List.append_nil, List.drop_zero, List.drop_succ_cons, Bool.cond_false_right, Bool.cond_false_left, Bool.cond_true_left, Bool.cond_true_right, ite_self, Bool.not_true, Bool.not_false, cond_true, cond_false, List.size_toArray, implies_true, true_implies, false_implies, List.all_cons, List.all_nil, List.nodup_cons, List.nodup_nil, List.mem_cons, List.not_mem_nil, or_false, false_or, not_false_eq_true, decide_true, Bool.and_true, Bool.and_self]; rfl
  · simp only [go_sem, ↓reduceIte, decide_eq_true_eq, reduceCtorEq, Nat.reduceEqDiff, Nat.reduceLT, Nat.reduceLeDiff, Nat.reduceAdd, Nat.reduceSub, Nat.reduceMul, Nat.reduceGT, Int.reduceNeg, Int.reduceToNat, and_true, true_and, and_false, false_and, List.getElem?_toArray, List.getElem?_cons_zero, List.getElem?_cons_succ, List.cons_append, List.nil_append, if_true, if_false, Option.getD_some, Option.isSome_some, Bool.false_eq_true, List.append_nil, List.drop_zero, List.drop_succ_cons, Bool.cond_false_right, Bool.cond_false_left, Bool.cond_true_left, Bool.cond_true_right, ite_self, Bool.not_true, Bool.not_false, cond_true, cond_false, List.size_toArray, implies_true, true_implies, false_implies, List.all_cons, List.all_nil, List.nodup_cons, List.nodup_nil, List.mem_cons, List.not_mem_nil, or_false, false_or, not_false_eq_true, decide_true, Bool.and_true, Bool.and_self]; rfl
  rintro k e st hk ⟨⟨a0, a1⟩, ⟨i, hi, a5, hq⟩, a6, rfl⟩
  simp only [go_sem, ↓reduceIte, decide_eq_true_eq, reduceCtorEq, Nat.reduceEqDiff, Nat.reduceLT, Nat.reduceLeDiff, Nat.reduceAdd, Nat.reduceSub, Nat.reduceMul, Nat.reduceGT, Int.reduceNeg, Int.reduceToNat, and_true, true_and, and_false, false_and, List.getElem?_toArray, List.getElem?_cons_zero, List.getElem?_cons_succ, List.cons_append, List.nil_append, if_true, if_false, Option.getD_some, Option.isSome_some, Bool.false_eq_true, List.append_nil, List.drop_zero, List.drop_succ_cons, Bool.cond_false_right, Bool.cond_false_left, Bool.cond_true_left, Bool.cond_true_right, ite_self, Bool.not_true, Bool.not_false, cond_true, cond_false, List.size_toArray, implies_true, true_implies, false_implies, List.all_cons, List.all_nil, List.nodup_cons, List.nodup_nil, List.mem_cons, List.not_mem_nil, or_false, false_or, not_false_eq_true, decide_true, Bool.and_true, Bool.and_self] at a0 a1
  simp only [go_sem, ↓reduceIte, decide_eq_true_eq, reduceCtorEq, Nat.reduceEqDiff, Nat.reduceLT, Nat.reduceLeDiff, Nat.reduceAdd, Nat.reduceSub, Nat.reduceMul, Nat.reduceGT, Int.reduceNeg, Int.reduceToNat, and_true, true_and, and_false, false_and, List.getElem?_toArray, List.getElem?_cons_zero, List.getElem?_cons_succ, List.cons_append, List.nil_append, if_true, if_false, Option.getD_some, Option.isSome_some, Bool.false_eq_true, List.append_nil, List.drop_zero, List.drop_succ_cons, Bool.cond_false_right, Bool.cond_false_left, Bool.cond_true_left, Bool.cond_true_right, ite_self, Bool.not_true, Bool.not_false, cond_true, cond_false, List.size_toArray, implies_true, true_implies, false_implies, List.all_cons, List.all_nil, List.nodup_cons, List.nodup_nil, List.mem_cons, List.not_mem_nil, or_false, false_or, not_false_eq_true, decide_true, Bool.and_true, Bool.and_self, a0, a1, a5, a6]
  have stay : ∀ (l : List Int), i = u.length → l.foldl (fun i y => if decide (i < u.length) && Es.at_ u (i : Int) == y then i + 1 else i) i = i := fun l hia => by
    induction l with
    | nil => rfl
    | cons y l ih => rw [List.foldl_cons, if_neg (by simp [hia])]; exact ih
  refine ite_cases (fun hlt => ?_) (fun hlt => ?_)
  · have hlt' : k < w.length := Es.len_lt.1 hlt
    rw [Es.drop_at hlt', List.foldl_cons] at hq
    refine ite_cases (fun hil => ?_) (fun hil => ?_)
    · have hil' : i < u.length := Es.len_lt.1 hil
      refine awp_plan ((.op 0 (.op 1 (.op 2 (.op 3 (.op 4 (.op 5 (.op 6 (.op 7 (.op 8 .done)))))))))) [] mix (by kernel_rfl) ?_
      simp only [go_sem, ↓reduceIte, decide_eq_true_eq, reduceCtorEq, Nat.reduceEqDiff, Nat.reduceLT, Nat.reduceLeDiff, Nat.reduceAdd, Nat.reduceSub, Nat.reduceMul, Nat.reduceGT, Int.reduceNeg, Int.reduceToNat, and_true, true_and, and_false, false_and, List.getElem?_toArray, List.getElem?_cons_zero, List.getElem?_cons_succ, List.cons_append, List.nil_append, if_true, if_false, Option.getD_some, Option.isSome_some, Bool.false_eq_true, List.append_nil, List.drop_zero, List.drop_succ_cons, Bool.cond_false_right, Bool.cond_false_left, Bool.cond_true_left, Bool.cond_true_right, ite_self, Bool.not_true, Bool.not_false, cond_true, cond_false, List.size_toArray, implies_true, true_implies, false_implies, List.all_cons, List.all_nil, List.nodup_cons, List.nodup_nil, List.mem_cons, List.not_mem_nil, or_false, false_or, not_false_eq_true, decide_true, Bool.and_true, Bool.and_self, a0, a1, a5, a6]
      refine ⟨⟨by omega, hil⟩, ⟨by omega, hlt⟩, ?_⟩
      refine ite_cases (fun he => ?_) (fun he => ?_)
      · refine ⟨hlt', ?_⟩
        simp only [go_sem, ↓reduceIte, decide_eq_true_eq, reduceCtorEq, Nat.reduceEqDiff, Nat.reduceLT, Nat.reduceLeDiff, Nat.reduceAdd, Nat.reduceSub, Nat.reduceMul, Nat.reduceGT, Int.reduceNeg, Int.reduceToNat, and_true, true_and, and_false, false_and, List.getElem?_toArray, List.getElem?_cons_zero, List.getElem?_cons_succ, List.cons_append, List.nil_append, if_true, if_false, Option.getD_some, Option.isSome_some, Bool.false_eq_true, List.append_nil, List.drop_zero, List.drop_succ_cons, Bool.cond_false_right, Bool.cond_false_left, Bool.cond_true_left, Bool.cond_true_right, ite_self, Bool.not_true, Bool.not_false, cond_true, cond_false, List.size_toArray, implies_true, true_implies, false_implies, List.all_cons, List.all_nil, List.nodup_cons, List.nodup_nil, List.mem_cons, List.not_mem_nil, or_false, false_or, not_false_eq_true, decide_true, Bool.and_true, Bool.and_self, a0, a1, a5, a6]
        refine ⟨⟨i + 1, hil', by rw [wrap_i64 _ (by omega) (by omega)]; simp, ?_⟩, by rw [wrap_i64 _ (by omega) (by omega)]; simp⟩
        rw [if_pos (by simp [hil']; simpa using he)] at hq; exact hq
      · refine ⟨hlt', ?_⟩
        simp only [go_sem, ↓reduceIte, decide_eq_true_eq, reduceCtorEq, Nat.reduceEqDiff, Nat.reduceLT, Nat.reduceLeDiff, Nat.reduceAdd, Nat.reduceSub, Nat.reduceMul, Nat.reduceGT, Int.reduceNeg, Int.reduceToNat, and_true, true_and, and_false, false_and, List.getElem?_toArray, List.getElem?_cons_zero, List.getElem?_cons_succ, List.cons_append, List.nil_append, if_true, if_false, Option.getD_some, Option.isSome_some, Bool.false_eq_true, List.append_nil, List.drop_zero, List.drop_succ_cons, Bool.cond_false_right, Bool.cond_false_left, Bool.cond_true_left, Bool.cond_true_right, ite_self, Bool.not_true, Bool.not_false, cond_true, cond_false, List.size_toArray, implies_true, true_implies, false_implies, List.all_cons, List.all_nil, List.nodup_cons, List.nodup_nil, List.mem_cons, List.not_mem_nil, or_false, false_or, not_false_eq_true, decide_true, Bool.and_true, Bool.and_self, a0, a1, a5, a6]
        refine ⟨⟨i, hi, rfl, ?_⟩, by rw [wrap_i64 _ (by omega) (by omega)]; simp⟩
        rw [if_neg (by simp; intro _; simpa using he)] at hq; exact hq
    · have hia : i = u.length := by simp only [Es.len] at hil; omega
      rw [if_neg (by simp [hia]), stay _ hia] at hq
      refine congrArg Value.bool ?_
      rw [Bool.eq_iff_iff]; simp only [Es.wIn, hq, Es.len, beq_iff_eq]; omega
  · have hkk : k = w.length := by simp only [Es.len] at hlt; omega
    rw [hkk, List.drop_length] at hq
    have hq' : Es.wI u w = i := hq
    refine congrArg Value.bool ?_
    rw [Bool.eq_iff_iff]; simp only [Es.wIn, hq', Es.len, beq_iff_eq]; omega
theorem countI_spec (l : List Int) (n : Int) (hl : l.length ≤ 1000000) : APure M 24 [slD 1 intC l, .v (.int .i64 n)] (.v (.int .i64 (Es.countI l n))) := by
  refine pure_of gpu func24 rfl results24 ntmps24 (by simp) ⟨pu_slD pu_intC _, .v _, trivial⟩ ?_
  intro b
  simp only [go_sem, ↓reduceIte, decide_eq_true_eq, reduceCtorEq, Nat.reduceEqDiff, Nat.reduceLT, Nat.reduceLeDiff, Nat.reduceAdd, Nat.reduceSub, Nat.reduceMul, Nat.reduceGT, Int.reduceNeg, Int.reduceToNat, and_true, true_and, and_false, false_and, List.getElem?_toArray, List.getElem?_cons_zero, List.getElem?_cons_succ, List.cons_append, List.nil_append, if_true, if_false, Option.getD_some, Option.isSome_some, Bool.false_eq_true, List.append_nil, List.drop_zero, List.drop_succ_cons, Bool.cond_false_right, Bool.cond_false_left, Bool.cond_true_left, Bool.cond_true_right, ite_self, Bool.not_true, Bool.not_false, cond_true, cond_false, List.size_toArray, implies_true, true_implies, false_implies, List.all_cons, List.all_nil, List.nodup_cons, List.nodup_nil, List.mem_cons, List.not_mem_nil, or_false, false_or, not_false_eq_true, decide_true, Bool.and_true, Bool.and_self]
  refine awp_count0 l.length (fun e0 s0 k e st => (e 0 = e0 0 ∧ e 1 = e0 1) ∧ (∃ i : Nat, i ≤ k ∧ e 5 = .v (.int .i64 i) ∧ Es.countI l n = (l.drop k).foldl (fun i y => if y == n then i + 1 else i) i) ∧ e 6 = .v (.int .i64 k) ∧ st = s0) ⟨⟨rfl, rfl⟩, ⟨0, Nat.zero_le _, ?_, rfl⟩, ?_, rfl⟩ ?_
  · simp only [go_sem, ↓reduceIte, decide_eq_true_eq, reduceCtorEq, Nat.reduceEqDiff, Nat.reduceLT, Nat.reduceLeDiff, Nat.reduceAdd, Nat.reduceSub, Nat.reduceMul, Nat.reduceGT, Int.reduceNeg, Int.reduceToNat, and_true, true_and, and_false, false_and, List.getElem?_toArray, List.getElem?_cons_zero, List.getElem?_cons_succ, List.cons_append, List.nil_append, if_true, if_false, Option.getD_some, Option.isSome_some, Bool.false_eq_true, List.append_nil, List.drop_zero, List.drop_succ_cons, Bool.cond_false_right, Bool.cond_false_left, Bool.cond_true_left, Bool.cond_true_right, ite_self, Bool.not_true, Bool.not_false, cond_true, cond_false, List.size_toArray, implies_true, true_implies, false_implies, List.all_cons, List.all_nil, List.nodup_cons, List.nodup_nil, List.mem_cons, List.not_mem_nil, or_false, false_or, not_false_eq_true, decide_true, Bool.and_true, Bool.and_self]; rfl
  · simp only [go_sem, ↓reduceIte, decide_eq_true_eq, reduceCtorEq, Nat.reduceEqDiff, Nat.reduceLT, Nat.reduceLeDiff, Nat.reduceAdd, Nat.reduceSub, Nat.reduceMul, Nat.reduceGT, Int.reduceNeg, Int.reduceToNat, and_true, true_and, and_false, false_and, List.getElem?_toArray, List.getElem?_cons_zero, List.getElem?_cons_succ, List.cons_append, List.nil_append, if_true, if_false, Option.getD_some, Option.isSome_some, Bool.false_eq_true, List.append_nil, List.drop_zero, List.drop_succ_cons, Bool.cond_false_right, Bool.cond_false_left, Bool.cond_true_left, Bool.cond_true_right, ite_self, Bool.not_true, Bool.not_false, cond_true, cond_false, List.size_toArray, implies_true, true_implies, false_implies, List.all_cons, List.all_nil, List.nodup_cons, List.nodup_nil, List.mem_cons, List.not_mem_nil, or_false, false_or, not_false_eq_true, decide_true, Bool.and_true, Bool.and_self]; rfl
  rintro k e st hk ⟨⟨a0, a1⟩, ⟨i, hi, a5, hw⟩, a6, rfl⟩
  simp only [go_sem, ↓reduceIte, decide_eq_true_eq, reduceCtorEq, Nat.reduceEqDiff, Nat.reduceLT, Nat.reduceLeDiff, Nat.reduceAdd, Nat.reduceSub, Nat.reduceMul, Nat.reduceGT, Int.reduceNeg, Int.reduceToNat, and_true, true_and, and_false, false_and, List.getElem?_toArray, List.getElem?_cons_zero, List.getElem?_cons_succ, List.cons_append, List.nil_append, if_true, if_false, Option.getD_some, Option.isSome_some, Bool.false_eq_true, List.append_nil, List.drop_zero, List.drop_succ_cons, Bool.cond_false_right, Bool.cond_false_left, Bool.cond_true_left, Bool.cond_true_right, ite_self, Bool.not_true, Bool.not_false, cond_true, cond_false, List.size_toArray, implies_true, true_implies, false_implies, List.all_cons, List.all_nil, List.nodup_cons, List.nodup_nil, List.mem_cons, List.not_mem_nil, or_false, false_or, not_false_eq_true, decide_true, Bool.and_true, Bool.and_self] at a0 a1
  simp only [go_sem, ↓reduceIte, decide_eq_true_eq, reduceCtorEq, Nat.reduceEqDiff, Nat.reduceLT, Nat.reduceLeDiff, Nat.reduceAdd, Nat.reduceSub, Nat.reduceMul, Nat.reduceGT, Int.reduceNeg, Int.reduceToNat, and_true, true_and, and_false, false_and, List.getElem?_toArray, List.getElem?_cons_zero, List.getElem?_cons_succ, List.cons_append, List.nil_append, if_true, if_false, Option.getD_some, Option.isSome_some, Bool.false_eq_true, List.append_nil, List.drop_zero, List.drop_succ_cons, Bool.cond_false_right, Bool.cond_false_left, Bool.cond_true_left, Bool.cond_true_right, ite_self, Bool.not_true, Bool.not_false, cond_true, cond_false, List.size_toArray, implies_true, true_implies, false_implies, List.all_cons, List.all_nil, List.nodup_cons, List.nodup_nil, List.mem_cons, List.not_mem_nil, or_false, false_or, not_false_eq_true, decide_true, Bool.and_true, Bool.and_self, a0, a1, a5, a6]
  refine ite_cases (fun hlt => ?_) (fun hlt => ?_)
  · have hlt' : k < l.length := Es.len_lt.1 hlt
    rw [Es.drop_at hlt', List.foldl_cons] at hw
    refine ⟨⟨by omega, hlt⟩, ?_⟩
    refine ite_cases (fun he => ?_) (fun he => ?_)
    · refine ⟨hlt', ?_⟩
      simp only [go_sem, ↓reduceIte, decide_eq_true_eq, reduceCtorEq, Nat.reduceEqDiff, Nat.reduceLT, Nat.reduceLeDiff, Nat.reduceAdd, Nat.reduceSub, Nat.reduceMul, Nat.reduceGT, Int.reduceNeg, Int.reduceToNat, and_true, true_and, and_false, false_and, List.getElem?_toArray, List.getElem?_cons_zero, List.getElem?_cons_succ, List.cons_append, List.nil_append, if_true, if_false, Option.getD_some, Option.isSome_some, Bool.false_eq_true, List.append_nil, List.drop_zero, List.drop_succ_cons, Bool.cond_false_right, Bool.cond_false_left, Bool.cond_true_left, Bool.cond_true_right, ite_self, Bool.not_true, Bool.not_false, cond_true, cond_false, List.size_toArray, implies_true, true_implies, false_implies, List.all_cons, List.all_nil, List.nodup_cons, List.nodup_nil, List.mem_cons, List.not_mem_nil, or_false, false_or, not_false_eq_true, decide_true, Bool.and_true, Bool.and_self, a0, a1, a5, a6]
      refine ⟨⟨i + 1, by omega, by rw [wrap_i64 _ (by omega) (by omega)]; simp, ?_⟩, by rw [wrap_i64 _ (by omega) (by omega)]; simp⟩
      rw [if_pos he] at hw; exact hw
    · refine ⟨hlt', ?_⟩
      simp only [go_sem, ↓reduceIte, decide_eq_true_eq, reduceCtorEq, Nat.reduceEqDiff, Nat.reduceLT, Nat.reduceLeDiff, Nat.reduceAdd, Nat.reduceSub, Nat.reduceMul, Nat.reduceGT, Int.reduceNeg, Int.reduceToNat, and_true, true_and, and_false, false_and, List.getElem?_toArray, List.getElem?_cons_zero, List.getElem?_cons_succ, List.cons_append, List.nil_append, if_true, if_false, Option.getD_some, Option.isSome_some, Bool.false_eq_true, List.append_nil, List.drop_zero, List.drop_succ_cons, Bool.cond_false_right, Bool.cond_false_left, Bool.cond_true_left, Bool.cond_true_right, ite_self, Bool.not_true, Bool.not_false, cond_true, cond_false, List.size_toArray, implies_true, true_implies, false_implies, List.all_cons, List.all_nil, List.nodup_cons, List.nodup_nil, List.mem_cons, List.not_mem_nil, or_false, false_or, not_false_eq_true, decide_true, Bool.and_true, Bool.and_self, a0, a1, a5, a6]
      refine ⟨⟨i, by omega, rfl, ?_⟩, by rw [wrap_i64 _ (by omega) (by omega)]; simp⟩
      rw [if_neg he] at hw; exact hw
  · have hkk : k = l.length := by simp only [Es.len] at hlt; omega
    rw [hkk, List.drop_length] at hw
    have hw' : Es.countI l n = i := hw
    rw [hw']
end Tryd
end Go.Proofs
end
section
/-
  An abstract machine over the model, part 18: an owned slice in a slot is given away where it lies.
-/
namespace Go.Abs
open Go

theorem freeze_cfg {c : Cfg} {s : S} {f k n : Nat} {ty : TypeId} {cell cell' : Nat → Nat → D} (hok : c.Ok s) (hB : s.o f 0 = some (.blk k n ty cell)) (hc : ∀ r c, r < n → c < k → cell r c = cell' r c) :
    ∃ c1 : Cfg, c1.W = c.W ∧ Ext c c1 ∧ c1.Ok (s.kill f 0) ∧ ∀ v, c.Rep (.ms f 0 k 0 n) v → c1.Rep (.sl k n cell') v := by
  obtain ⟨hlt, ho⟩ := hok.obj f 0 _ hB
  have hkill : ∀ f' i' B', (s.kill f 0).o f' i' = some B' → ¬ (f' = f ∧ i' = 0) ∧ s.o f' i' = some B' := fun f' i' B' hh => by
    change (if f' = f ∧ i' = 0 then none else s.o f' i') = some B' at hh
    split at hh
    · cases hh
    · rename_i hne; exact ⟨hne, hh⟩
  rcases ho with ⟨b, cp, hβ, hnk, hn, arr, harr, hsz, hcell⟩ | ⟨hβ, he⟩
  · have hx : Ext c ⟨fun x => c.K x ∨ x = b, c.β, c.W⟩ :=
      ⟨fun _ h => .inl h, fun _ _ _ h => h, Nat.le_refl _, rfl, rfl, rfl, fun _ _ => rfl, fun _ _ _ => rfl, fun x hx => by
        rcases hx with hx | rfl
        · exact .inl hx
        · exact .inr (.inl ⟨f, 0, cp, hβ⟩), fun f i x cp h => .inl ⟨f, i, cp, h⟩⟩
    refine ⟨⟨fun x => c.K x ∨ x = b, c.β, c.W⟩, rfl, hx, ?_, fun v hr => ?_⟩
    · refine ⟨fun x hx => ?_, hok.βb, hok.fresh, fun f1 i1 B1 hB1 => ?_, fun f1 i1 f2 i2 B1 B2 b' cp1 cp2 h1 h2 h3 h4 => hok.inj _ _ _ _ _ _ _ _ _ (hkill _ _ _ h1).2 (hkill _ _ _ h2).2 h3 h4⟩
      · rcases hx with hx | rfl
        · exact hok.kb x hx
        · exact hok.βb f 0 _ cp hβ
      · obtain ⟨hne, hB1'⟩ := hkill _ _ _ hB1
        obtain ⟨k1, k2⟩ := hok.obj f1 i1 B1 hB1'
        refine ⟨k1, ?_⟩
        rcases k2 with ⟨b1, cp1, g1, g2, g3⟩ | k2
        · refine .inl ⟨b1, cp1, g1, fun hk => ?_, g3.mono (fun _ h => .inl h) (fun _ _ _ h => h) (fun _ _ => rfl) rfl⟩
          rcases hk with hk | rfl
          · exact g2 hk
          · exact hne (hok.inj _ _ _ _ _ _ _ _ _ hB1' hB g1 hβ)
        · exact .inr k2
    · cases hr with
      | ms _ _ _ _ _ b0 cp0 cap hβ0 hcp1 hcp2 =>
        rw [hβ] at hβ0; cases hβ0
        refine .sl k n cell' b (0 * k) cap (fun r j => arr.getD (r * k + j) undef) (.inr rfl) hcp1 (fun r j hr hj => ?_) (fun r j hr hj => (hcell r j hr hj).1) (fun r j hr hj => ?_)
        · have := arr_cell (w := c.W) harr (o := r * k + j) (by rw [hsz]; exact idx_lt (by omega) hj)
          rw [Nat.zero_mul, Nat.zero_add]; exact this
        · rw [← hc r j hr hj]; exact hx.rep (hcell r j hr hj).2
      | msnil => exact .slnil k cell'
  · have hn0 : n = 0 := he
    subst hn0
    refine ⟨c, rfl, Ext.refl c, kill_ok hok f 0, fun v hr => ?_⟩
    cases hr with
    | ms _ _ _ _ _ b0 cp0 cap hβ0 => rw [hβ] at hβ0; cases hβ0
    | msnil => exact .slnil k cell'
theorem awp_freeze {M : Ctx} {x : Code} {Q : Exit → Env → S → Prop} {e : Env} {s : S} {t f k n : Nat} {ty : TypeId} {cell cell' : Nat → Nat → D} (ht : e t = .ms f 0 k 0 n) (hB : s.o f 0 = some (.blk k n ty cell)) (hc : ∀ r c, r < n → c < k → cell r c = cell' r c)
    (h : AWp M x Q (upd e t (.sl k n cell')) (s.kill f 0)) : AWp M x Q e s := by
  intro cf a m hE hok
  obtain ⟨c1, hW, hx, hok1, hr⟩ := freeze_cfg hok hB hc
  have hE1 : EnvRel M c1 (upd e t (.sl k n cell')) a := by
    refine ⟨hE.defers.ext hx, hE.size, fun u => ?_, hE.glob.ext hx⟩
    show c1.Rep (if u = t then .sl k n cell' else e u) _
    by_cases hu : u = t
    · subst hu; rw [if_pos rfl]; exact hr _ (ht ▸ hE.slot u)
    · rw [if_neg hu]; exact hx.rep (hE.slot u)
  have := h c1 a m hE1 hok1
  rw [hW] at this
  refine wpIn_mono this ?_
  rintro ex a' W' ⟨cf', e', s', g1, g2, g3, g4, g5⟩
  exact ⟨cf', e', s', g1, hx.trans g2, g3, g4, g5⟩
end Go.Abs
end
section
namespace Go.Proofs
open Go Go.Abs
set_option linter.unusedSimpArgs false
set_option linter.unusedVariables false
set_option maxRecDepth 10000
namespace Tryd
theorem sampleP_spec : APure M 37 [] (conD Es.sampleP) := by
  refine pure_of gpu func37 rfl results37 ntmps37 (by simp) trivial ?_
  intro b
  simp only [go_sem, ↓reduceIte, decide_eq_true_eq, reduceCtorEq, Nat.reduceEqDiff, Nat.reduceLT, Nat.reduceLeDiff, Nat.reduceAdd, Nat.reduceSub, Nat.reduceMul, Nat.reduceGT, Int.reduceNeg, Int.reduceToNat, and_true, true_and, and_false, false_and, List.getElem?_toArray, List.getElem?_cons_zero, List.getElem?_cons_succ, List.cons_append, List.nil_append, if_true, if_false, Option.getD_some, Option.isSome_some, Bool.false_eq_true, List.append_nil, List.drop_zero, List.drop_succ_cons, Bool.cond_false_right, Bool.cond_false_left, Bool.cond_true_left, Bool.cond_true_right, ite_self, Bool.not_true, Bool.not_false, cond_true, cond_false, List.size_toArray, implies_true, true_implies, false_implies, List.all_cons, List.all_nil, List.nodup_cons, List.nodup_nil, List.mem_cons, List.not_mem_nil, or_false, false_or, not_false_eq_true, decide_true, Bool.and_true, Bool.and_self]
  refine Fz_agg ⟨.v _, .ms _ _ _ _ _ _ _ _ _ rfl (by decide) ?_, .nil _ _, .ms _ _ _ _ _ _ _ _ _ rfl (by decide) ?_, .nil _ _, .v _, .nil _ _, trivial⟩
  · intro r j hr hj
    have hr : r = 0 ∨ r = 1 ∨ r = 2 := by omega
    obtain rfl : j = 0 := by omega
    rcases hr with rfl | rfl | rfl <;> exact .v _
  · intro r j hr hj
    have hr : r = 0 ∨ r = 1 := by omega
    have hj : j = 0 ∨ j = 1 ∨ j = 2 ∨ j = 3 ∨ j = 4 ∨ j = 5 ∨ j = 6 := by omega
    rcases hr with rfl | rfl <;> rcases hj with rfl | rfl | rfl | rfl | rfl | rfl | rfl <;> exact .v _
theorem lit_ints (zs : List Value) (l : List Int) (ps : List (Nat × List D)) (n : Nat) (hn : n = l.length) (h : ∀ r, r < l.length → litCell zs ps r 0 = .v (.int .i64 (l.getD r default))) : ∀ r c, r < n → c < 1 → litCell zs ps r c = rowsOf intC l r c := fun r c hr hc => by
  obtain rfl : c = 0 := by omega
  exact h r (by omega)
theorem headP_spec : APure M 14 [] (.v (.bool true)) := by
  refine apure_of (fun x h => by cases h) gpu (acall_of func14 rfl results14 ntmps14 (by simp) fun b => ?_)
  refine awp_seq (wpA_sound _ _ _ _ ?_)
  simp only [go_sem, ↓reduceIte, decide_eq_true_eq, reduceCtorEq, Nat.reduceEqDiff, Nat.reduceLT, Nat.reduceLeDiff, Nat.reduceAdd, Nat.reduceSub, Nat.reduceMul, Nat.reduceGT, Int.reduceNeg, Int.reduceToNat, and_true, true_and, and_false, false_and, List.getElem?_toArray, List.getElem?_cons_zero, List.getElem?_cons_succ, List.cons_append, List.nil_append, if_true, if_false, Option.getD_some, Option.isSome_some, Bool.false_eq_true, List.append_nil, List.drop_zero, List.drop_succ_cons, Bool.cond_false_right, Bool.cond_false_left, Bool.cond_true_left, Bool.cond_true_right, ite_self, Bool.not_true, Bool.not_false, cond_true, cond_false, List.size_toArray, implies_true, true_implies, false_implies, List.all_cons, List.all_nil, List.nodup_cons, List.nodup_nil, List.mem_cons, List.not_mem_nil, or_false, false_or, not_false_eq_true, decide_true, Bool.and_true, Bool.and_self]
  refine awp_seq (wpA_sound _ _ _ _ ?_)
  simp only [go_sem, ↓reduceIte, decide_eq_true_eq, reduceCtorEq, Nat.reduceEqDiff, Nat.reduceLT, Nat.reduceLeDiff, Nat.reduceAdd, Nat.reduceSub, Nat.reduceMul, Nat.reduceGT, Int.reduceNeg, Int.reduceToNat, and_true, true_and, and_false, false_and, List.getElem?_toArray, List.getElem?_cons_zero, List.getElem?_cons_succ, List.cons_append, List.nil_append, if_true, if_false, Option.getD_some, Option.isSome_some, Bool.false_eq_true, List.append_nil, List.drop_zero, List.drop_succ_cons, Bool.cond_false_right, Bool.cond_false_left, Bool.cond_true_left, Bool.cond_true_right, ite_self, Bool.not_true, Bool.not_false, cond_true, cond_false, List.size_toArray, implies_true, true_implies, false_implies, List.all_cons, List.all_nil, List.nodup_cons, List.nodup_nil, List.mem_cons, List.not_mem_nil, or_false, false_or, not_false_eq_true, decide_true, Bool.and_true, Bool.and_self]
  refine awp_freeze (t := 1) (f := 0) (k := 1) (n := 3) (cell' := rowsOf intC [0, -1, 1]) rfl rfl (lit_ints _ _ _ _ rfl fun r hr => by
    have : r = 0 ∨ r = 1 ∨ r = 2 := by simp only [List.length_cons, List.length_nil] at hr; omega
    rcases this with rfl | rfl | rfl <;> rfl) ?_
  rw [show D.sl 1 3 (rowsOf intC [0, -1, 1]) = slD 1 intC [0, -1, 1] from rfl]
  refine wpA_sound _ _ _ _ ?_
  simp only [go_sem, ↓reduceIte, decide_eq_true_eq, reduceCtorEq, Nat.reduceEqDiff, Nat.reduceLT, Nat.reduceLeDiff, Nat.reduceAdd, Nat.reduceSub, Nat.reduceMul, Nat.reduceGT, Int.reduceNeg, Int.reduceToNat, and_true, true_and, and_false, false_and, List.getElem?_toArray, List.getElem?_cons_zero, List.getElem?_cons_succ, List.cons_append, List.nil_append, if_true, if_false, Option.getD_some, Option.isSome_some, Bool.false_eq_true, List.append_nil, List.drop_zero, List.drop_succ_cons, Bool.cond_false_right, Bool.cond_false_left, Bool.cond_true_left, Bool.cond_true_right, ite_self, Bool.not_true, Bool.not_false, cond_true, cond_false, List.size_toArray, implies_true, true_implies, false_implies, List.all_cons, List.all_nil, List.nodup_cons, List.nodup_nil, List.mem_cons, List.not_mem_nil, or_false, false_or, not_false_eq_true, decide_true, Bool.and_true, Bool.and_self]
  repeat' (first | ((with_reducible refine call_at M_P M_G (sampleP_spec) ?_); simp only [go_sem, ↓reduceIte, decide_eq_true_eq, reduceCtorEq, Nat.reduceEqDiff, Nat.reduceLT, Nat.reduceLeDiff, Nat.reduceAdd, Nat.reduceSub, Nat.reduceMul, Nat.reduceGT, Int.reduceNeg, Int.reduceToNat, and_true, true_and, and_false, false_and, List.getElem?_toArray, List.getElem?_cons_zero, List.getElem?_cons_succ, List.cons_append, List.nil_append, if_true, if_false, Option.getD_some, Option.isSome_some, Bool.false_eq_true, List.append_nil, List.drop_zero, List.drop_succ_cons, Bool.cond_false_right, Bool.cond_false_left, Bool.cond_true_left, Bool.cond_true_right, ite_self, Bool.not_true, Bool.not_false, cond_true, cond_false, List.size_toArray, implies_true, true_implies, false_implies, List.all_cons, List.all_nil, List.nodup_cons, List.nodup_nil, List.mem_cons, List.not_mem_nil, or_false, false_or, not_false_eq_true, decide_true, Bool.and_true, Bool.and_self]) | ((with_reducible refine call_at M_P M_G (view_spec Es.sampleP [0, -1, 1] _ Es.sampleP_fits (by decide)) ?_); simp only [go_sem, ↓reduceIte, decide_eq_true_eq, reduceCtorEq, Nat.reduceEqDiff, Nat.reduceLT, Nat.reduceLeDiff, Nat.reduceAdd, Nat.reduceSub, Nat.reduceMul, Nat.reduceGT, Int.reduceNeg, Int.reduceToNat, and_true, true_and, and_false, false_and, List.getElem?_toArray, List.getElem?_cons_zero, List.getElem?_cons_succ, List.cons_append, List.nil_append, if_true, if_false, Option.getD_some, Option.isSome_some, Bool.false_eq_true, List.append_nil, List.drop_zero, List.drop_succ_cons, Bool.cond_false_right, Bool.cond_false_left, Bool.cond_true_left, Bool.cond_true_right, ite_self, Bool.not_true, Bool.not_false, cond_true, cond_false, List.size_toArray, implies_true, true_implies, false_implies, List.all_cons, List.all_nil, List.nodup_cons, List.nodup_nil, List.mem_cons, List.not_mem_nil, or_false, false_or, not_false_eq_true, decide_true, Bool.and_true, Bool.and_self]) | (with_reducible refine And.intro ?_ ?_) | ((with_reducible refine ite_cases ?_ ?_) <;> intro _))
  refine acall_freeze (f := 1) (k := 1) (n := 2) (cell' := rowsOf intC [2, 1]) (args' := [conD Es.sampleP, slD 1 intC [0, -1, 1], slD 1 intC [2, 1]]) rfl (lit_ints _ _ _ _ rfl fun r hr => by
    have : r = 0 ∨ r = 1 := by simp only [List.length_cons, List.length_nil] at hr; omega
    rcases this with rfl | rfl <;> rfl) ⟨.inl rfl, .inl rfl, .inr ⟨rfl, rfl⟩, trivial⟩ ?_
  refine call_at M_P M_G (joint_spec Es.sampleP [0, -1, 1] [2, 1] Es.sampleP_fits (by decide) (by decide)) ?_
  simp only [go_sem, ↓reduceIte, decide_eq_true_eq, reduceCtorEq, Nat.reduceEqDiff, Nat.reduceLT, Nat.reduceLeDiff, Nat.reduceAdd, Nat.reduceSub, Nat.reduceMul, Nat.reduceGT, Int.reduceNeg, Int.reduceToNat, and_true, true_and, and_false, false_and, List.getElem?_toArray, List.getElem?_cons_zero, List.getElem?_cons_succ, List.cons_append, List.nil_append, if_true, if_false, Option.getD_some, Option.isSome_some, Bool.false_eq_true, List.append_nil, List.drop_zero, List.drop_succ_cons, Bool.cond_false_right, Bool.cond_false_left, Bool.cond_true_left, Bool.cond_true_right, ite_self, Bool.not_true, Bool.not_false, cond_true, cond_false, List.size_toArray, implies_true, true_implies, false_implies, List.all_cons, List.all_nil, List.nodup_cons, List.nodup_nil, List.mem_cons, List.not_mem_nil, or_false, false_or, not_false_eq_true, decide_true, Bool.and_true, Bool.and_self, Es.view, Es.headP_a, Es.headP_b, Es.headP_c]
  refine call_at M_P M_G sampleP_spec ?_
  simp only [go_sem, ↓reduceIte, decide_eq_true_eq, reduceCtorEq, Nat.reduceEqDiff, Nat.reduceLT, Nat.reduceLeDiff, Nat.reduceAdd, Nat.reduceSub, Nat.reduceMul, Nat.reduceGT, Int.reduceNeg, Int.reduceToNat, and_true, true_and, and_false, false_and, List.getElem?_toArray, List.getElem?_cons_zero, List.getElem?_cons_succ, List.cons_append, List.nil_append, if_true, if_false, Option.getD_some, Option.isSome_some, Bool.false_eq_true, List.append_nil, List.drop_zero, List.drop_succ_cons, Bool.cond_false_right, Bool.cond_false_left, Bool.cond_true_left, Bool.cond_true_right, ite_self, Bool.not_true, Bool.not_false, cond_true, cond_false, List.size_toArray, implies_true, true_implies, false_implies, List.all_cons, List.all_nil, List.nodup_cons, List.nodup_nil, List.mem_cons, List.not_mem_nil, or_false, false_or, not_false_eq_true, decide_true, Bool.and_true, Bool.and_self, Es.view, Es.headP_a, Es.headP_b, Es.headP_c, Es.headP_h]
  refine call_at M_P M_G (view_spec Es.sampleP [0, -1, 1] 3 Es.sampleP_fits (by decide)) ?_
  simp only [go_sem, ↓reduceIte, decide_eq_true_eq, reduceCtorEq, Nat.reduceEqDiff, Nat.reduceLT, Nat.reduceLeDiff, Nat.reduceAdd, Nat.reduceSub, Nat.reduceMul, Nat.reduceGT, Int.reduceNeg, Int.reduceToNat, and_true, true_and, and_false, false_and, List.getElem?_toArray, List.getElem?_cons_zero, List.getElem?_cons_succ, List.cons_append, List.nil_append, if_true, if_false, Option.getD_some, Option.isSome_some, Bool.false_eq_true, List.append_nil, List.drop_zero, List.drop_succ_cons, Bool.cond_false_right, Bool.cond_false_left, Bool.cond_true_left, Bool.cond_true_right, ite_self, Bool.not_true, Bool.not_false, cond_true, cond_false, List.size_toArray, implies_true, true_implies, false_implies, List.all_cons, List.all_nil, List.nodup_cons, List.nodup_nil, List.mem_cons, List.not_mem_nil, or_false, false_or, not_false_eq_true, decide_true, Bool.and_true, Bool.and_self, Es.view, Es.headP_a, Es.headP_b, Es.headP_c, Es.headP_h]
  repeat (first | (rw [if_pos (by decide)]) | (rw [if_neg (by decide)]) | (refine ⟨by decide, ?_⟩))
  refine call_at M_P M_G (ints_spec [0, -1, 1] [0, -1, 1] (by decide)) ?_
  simp only [go_sem, ↓reduceIte, decide_eq_true_eq, reduceCtorEq, Nat.reduceEqDiff, Nat.reduceLT, Nat.reduceLeDiff, Nat.reduceAdd, Nat.reduceSub, Nat.reduceMul, Nat.reduceGT, Int.reduceNeg, Int.reduceToNat, and_true, true_and, and_false, false_and, List.getElem?_toArray, List.getElem?_cons_zero, List.getElem?_cons_succ, List.cons_append, List.nil_append, if_true, if_false, Option.getD_some, Option.isSome_some, Bool.false_eq_true, List.append_nil, List.drop_zero, List.drop_succ_cons, Bool.cond_false_right, Bool.cond_false_left, Bool.cond_true_left, Bool.cond_true_right, ite_self, Bool.not_true, Bool.not_false, cond_true, cond_false, List.size_toArray, implies_true, true_implies, false_implies, List.all_cons, List.all_nil, List.nodup_cons, List.nodup_nil, List.mem_cons, List.not_mem_nil, or_false, false_or, not_false_eq_true, decide_true, Bool.and_true, Bool.and_self, Es.view, Es.headP_a, Es.headP_b, Es.headP_c, Es.headP_h]
  repeat (first | (rw [if_pos (by decide)]) | (rw [if_neg (by decide)]) | (refine ⟨by decide, ?_⟩))
  refine acall_freeze (f := 2) (k := 1) (n := 2) (cell' := rowsOf intC [-1, 1]) (args' := [slD 1 intC [-1, 1], slD 1 intC [-1, 1]]) rfl (lit_ints _ _ _ _ rfl fun r hr => by
    have : r = 0 ∨ r = 1 := by simp only [List.length_cons, List.length_nil] at hr; omega
    rcases this with rfl | rfl <;> rfl) ⟨.inl rfl, .inr ⟨rfl, rfl⟩, trivial⟩ ?_
  refine call_at M_P M_G (ints_spec [-1, 1] [-1, 1] (by decide)) ?_
  simp only [go_sem, ↓reduceIte, decide_eq_true_eq, reduceCtorEq, Nat.reduceEqDiff, Nat.reduceLT, Nat.reduceLeDiff, Nat.reduceAdd, Nat.reduceSub, Nat.reduceMul, Nat.reduceGT, Int.reduceNeg, Int.reduceToNat, and_true, true_and, and_false, false_and, List.getElem?_toArray, List.getElem?_cons_zero, List.getElem?_cons_succ, List.cons_append, List.nil_append, if_true, if_false, Option.getD_some, Option.isSome_some, Bool.false_eq_true, List.append_nil, List.drop_zero, List.drop_succ_cons, Bool.cond_false_right, Bool.cond_false_left, Bool.cond_true_left, Bool.cond_true_right, ite_self, Bool.not_true, Bool.not_false, cond_true, cond_false, List.size_toArray, implies_true, true_implies, false_implies, List.all_cons, List.all_nil, List.nodup_cons, List.nodup_nil, List.mem_cons, List.not_mem_nil, or_false, false_or, not_false_eq_true, decide_true, Bool.and_true, Bool.and_self, Es.view, Es.headP_a, Es.headP_b, Es.headP_c, Es.headP_h]
  repeat (first | (rw [if_pos (by decide)]) | (rw [if_neg (by decide)]) | (refine ⟨by decide, ?_⟩))
  refine call_at M_P M_G (ints_spec [0, -1, 1] [0, -1, 1] (by decide)) ?_
  simp only [go_sem, ↓reduceIte, decide_eq_true_eq, reduceCtorEq, Nat.reduceEqDiff, Nat.reduceLT, Nat.reduceLeDiff, Nat.reduceAdd, Nat.reduceSub, Nat.reduceMul, Nat.reduceGT, Int.reduceNeg, Int.reduceToNat, and_true, true_and, and_false, false_and, List.getElem?_toArray, List.getElem?_cons_zero, List.getElem?_cons_succ, List.cons_append, List.nil_append, if_true, if_false, Option.getD_some, Option.isSome_some, Bool.false_eq_true, List.append_nil, List.drop_zero, List.drop_succ_cons, Bool.cond_false_right, Bool.cond_false_left, Bool.cond_true_left, Bool.cond_true_right, ite_self, Bool.not_true, Bool.not_false, cond_true, cond_false, List.size_toArray, implies_true, true_implies, false_implies, List.all_cons, List.all_nil, List.nodup_cons, List.nodup_nil, List.mem_cons, List.not_mem_nil, or_false, false_or, not_false_eq_true, decide_true, Bool.and_true, Bool.and_self, Es.view, Es.headP_a, Es.headP_b, Es.headP_c, Es.headP_h]
  repeat (first | (rw [if_pos (by decide)]) | (rw [if_neg (by decide)]) | (refine ⟨by decide, ?_⟩))
  first
    | rfl
    | decide
    | (simp; done)
    | trace_state
end Tryd
end Go.Proofs
end
