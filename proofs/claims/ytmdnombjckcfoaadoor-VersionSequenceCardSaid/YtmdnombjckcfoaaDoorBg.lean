/-
  Parts of an abstract machine over the model, of the program's data and of what its functions compute: the texts F51, merged.
-/
import Derived.Test.YtmdnombjckcfoaaDoorBf
set_option linter.unusedSimpArgs false
set_option linter.unusedVariables false
section
namespace Go.Proofs
open Go Go.Abs
set_option linter.unusedSimpArgs false
set_option linter.unusedVariables false
set_option maxRecDepth 10000
namespace Tryd
def resL2 (x : List Int × Int) : D := .tup [slD 1 intC x.1, .v (.int .i64 x.2)]
@[go_sem] theorem resL2_eq (x : List Int × Int) : resL2 x = .tup [slD 1 intC x.1, .v (.int .i64 x.2)] := nr rfl
/-- The two lists that the loop of Days makes. -/
structure DaL (E : List (Int × Es.Contract)) (st : S) : Prop where
  day : ∃ d cell, st.o 1 0 = some (.blk 1 1 22 cell) ∧ cell 0 0 = d ∧ (E = [] → d = .v (.slice none 0 0)) ∧ OutL intC 1 3 7 st d (E.map (·.1))
  ends : ∃ d cell, st.o 2 0 = some (.blk 1 1 105 cell) ∧ cell 0 0 = d ∧ (E = [] → d = .v (.slice none 0 0)) ∧ OutL conC 7 27 7 st d (E.map (·.2))
theorem DaL.same {E : List (Int × Es.Contract)} {o o' : St} {nx nx' : Nat} (h : DaL E ⟨o, nx⟩) (hx : 7 ≤ nx) (hn : nx ≤ nx') (hs : ∀ f j, f < nx → f ≠ 3 → f ≠ 6 → o' f j = o f j) : DaL E ⟨o', nx'⟩ := by
  refine ⟨?_, ?_⟩
  · obtain ⟨d, cell, h1, h2, h4, h3⟩ := h.day
    exact ⟨d, cell, (hs _ 0 (by omega) (by omega) (by omega)).trans h1, h2, h4, h3.keep hn fun g h1 h2 => hs g 0 h2 (by omega) (by omega)⟩
  · obtain ⟨d, cell, h1, h2, h4, h3⟩ := h.ends
    exact ⟨d, cell, (hs _ 0 (by omega) (by omega) (by omega)).trans h1, h2, h4, h3.keep hn fun g h1 h2 => hs g 0 h2 (by omega) (by omega)⟩
/-- What holds behind a round of that loop. -/
structure DaP (n1 : Nat) (o1 : St) (bz : SObj) (E : List (Int × Es.Contract)) (st : S) : Prop where
  nxt : n1 ≤ st.nx
  con : st.o 0 0 = o1 0 0
  var : st.o 3 0 = o1 3 0
  kno : st.o 5 0 = o1 5 0
  rcd : st.o 6 0 = some bz
  lst : DaL E st
theorem pushE_nil {x : Es.Amend × Es.Contract} : Es.pushE [] x = [(x.1.day, x.2)] := rfl
theorem pushE_snoc {E : List (Int × Es.Contract)} {y : Int × Es.Contract} {x : Es.Amend × Es.Contract} : Es.pushE (E ++ [y]) x = if y.1 < x.1.day then E ++ [y] ++ [(x.1.day, x.2)] else E ++ [(y.1, x.2)] := by
  unfold Es.pushE
  rw [List.getLast?_append]
  simp
theorem endsA_snoc (v : List (Es.Amend × Es.Contract)) (x : Es.Amend × Es.Contract) : Es.endsA (v ++ [x]) = Es.pushE (Es.endsA v) x := by unfold Es.endsA; rw [List.foldl_append]; rfl
theorem endsA_len (v : List (Es.Amend × Es.Contract)) : (Es.endsA v).length ≤ v.length := by
  refine Es.list_snoc (P := fun v => (Es.endsA v).length ≤ v.length) (Nat.le_refl _) (fun v x ih => ?_) v
  rw [endsA_snoc]
  unfold Es.pushE
  split
  · simp
  · split <;> simp <;> omega
theorem endsA_mem (v : List (Es.Amend × Es.Contract)) : ∀ y ∈ Es.endsA v, ∃ z ∈ v, y.2 = z.2 := by
  refine Es.list_snoc (P := fun v => ∀ y ∈ Es.endsA v, ∃ z ∈ v, y.2 = z.2) (fun y hy => by cases hy) (fun v x ih y hy => ?_) v
  rw [endsA_snoc] at hy
  unfold Es.pushE at hy
  have hx : ∀ d, (d, x.2) = y → ∃ z ∈ v ++ [x], y.2 = z.2 := fun d h => ⟨x, by simp, by rw [← h]⟩
  have hv : y ∈ Es.endsA v → ∃ z ∈ v ++ [x], y.2 = z.2 := fun h => by
    obtain ⟨z, hz, e⟩ := ih y h; exact ⟨z, by simp [hz], e⟩
  split at hy
  · simp only [List.mem_singleton] at hy; exact hx _ hy.symm
  · split at hy
    · rcases List.mem_append.1 hy with hy | hy
      · exact hv hy
      · simp only [List.mem_singleton] at hy; exact hx _ hy.symm
    · rcases List.mem_append.1 hy with hy | hy
      · exact hv (List.dropLast_subset _ hy)
      · simp only [List.mem_singleton] at hy; exact hx _ hy.symm
theorem put_ne {s : S} {f i f' i' : Nat} {B : SObj} (h : f' ≠ f) : (s.put f i B).o f' i' = s.o f' i' := set_ne h
theorem put_self {s : S} {f i : Nat} {B : SObj} : (s.put f i B).o f i = some B := St_set_self _ _ _ _
theorem one_row {f : Nat → D} {x : Int} (h : f 0 = intC x 0) : ∀ j, j < 1 → f j = intC x j := fun j hj => by
  obtain rfl : j = 0 := by omega
  exact h
theorem DaP.one {n1 : Nat} {o1 : St} {bz : SObj} {x : Int × Es.Contract} {st : S} {g1 g2 : Nat} {ca cb cl1 sr1 cl2 sr2 : Nat → Nat → D} (hn : n1 ≤ st.nx) (h0 : st.o 0 0 = o1 0 0) (h3 : st.o 3 0 = o1 3 0) (h5 : st.o 5 0 = o1 5 0) (h6 : st.o 6 0 = some bz)
    (h1 : st.o 1 0 = some (.blk 1 1 22 (setC ca 0 0 [.ms g1 0 1 0 1]))) (k1 : st.o g1 0 = some (.blk 1 1 3 (appC cl1 0 sr1))) (h2 : st.o 2 0 = some (.blk 1 1 105 (setC cb 0 0 [.ms g2 0 7 0 1]))) (k2 : st.o g2 0 = some (.blk 7 1 27 (appC cl2 0 sr2)))
    (s1 : sr1 0 0 = intC x.1 0) (s2 : ∀ j, j < 7 → sr2 0 j = conC x.2 j) (b1 : 7 ≤ g1) (b2 : g1 < st.nx) (b3 : 7 ≤ g2) (b4 : g2 < st.nx) : DaP n1 o1 bz [x] st :=
  ⟨hn, h0, h3, h5, h6, ⟨⟨_, _, h1, rfl, fun h => by simp at h, OutL.one b1 b2 k1 (one_row s1)⟩, ⟨_, _, h2, rfl, fun h => by simp at h, OutL.one b3 b4 k2 s2⟩⟩⟩
theorem DaP.more {n1 : Nat} {o1 : St} {bz : SObj} {E : List (Int × Es.Contract)} {x : Int × Es.Contract} {st : S} {g1 g2 n : Nat} {ca cb cl1 sr1 cl2 sr2 : Nat → Nat → D} (hE : E.length = n) (c1 : ∀ r c, r < (E.map (·.1)).length → c < 1 → cl1 r c = rowsOf intC (E.map (·.1)) r c) (c2 : ∀ r c, r < (E.map (·.2)).length → c < 7 → cl2 r c = rowsOf conC (E.map (·.2)) r c)
    (hn : n1 ≤ st.nx) (h0 : st.o 0 0 = o1 0 0) (h3 : st.o 3 0 = o1 3 0) (h5 : st.o 5 0 = o1 5 0) (h6 : st.o 6 0 = some bz)
    (h1 : st.o 1 0 = some (.blk 1 1 22 (setC ca 0 0 [.ms g1 0 1 0 (n + 1)]))) (k1 : st.o g1 0 = some (.blk 1 (n + 1) 3 (appC cl1 n sr1))) (h2 : st.o 2 0 = some (.blk 1 1 105 (setC cb 0 0 [.ms g2 0 7 0 (n + 1)]))) (k2 : st.o g2 0 = some (.blk 7 (n + 1) 27 (appC cl2 n sr2)))
    (s1 : sr1 0 0 = intC x.1 0) (s2 : ∀ j, j < 7 → sr2 0 j = conC x.2 j) (b1 : 7 ≤ g1) (b2 : g1 < st.nx) (b3 : 7 ≤ g2) (b4 : g2 < st.nx) : DaP n1 o1 bz (E ++ [x]) st := by
  have e1 : (E.map (·.1)).length = n := by simp [hE]
  have e2 : (E.map (·.2)).length = n := by simp [hE]
  refine ⟨hn, h0, h3, h5, h6, ⟨⟨_, _, h1, rfl, fun h => by simp at h, ?_⟩, ⟨_, _, h2, rfl, fun h => by simp at h, ?_⟩⟩⟩
  · rw [List.map_append]
    have := OutL.more (x := x.1) b1 b2 (by rw [e1]; exact k1) c1 (one_row s1)
    rw [e1] at this; exact this
  · rw [List.map_append]
    have := OutL.more (x := x.2) b3 b4 (by rw [e2]; exact k2) c2 s2
    rw [e2] at this; exact this
theorem DaL.put {E : List (Int × Es.Contract)} {y : Int × Es.Contract} {x : Es.Contract} {st : S} {g1 g2 n : Nat} {ca cb cl1 cl2 : Nat → Nat → D} {ds : List D} (hE : E.length = n) (c1 : ∀ r c, r < ((E ++ [y]).map (·.1)).length → c < 1 → cl1 r c = rowsOf intC ((E ++ [y]).map (·.1)) r c) (c2 : ∀ r c, r < ((E ++ [y]).map (·.2)).length → c < 7 → cl2 r c = rowsOf conC ((E ++ [y]).map (·.2)) r c) (hca : ca 0 0 = .ms g1 0 1 0 (n + 1)) (hcb : cb 0 0 = .ms g2 0 7 0 (n + 1))
    (h1 : st.o 1 0 = some (.blk 1 1 22 ca)) (k1 : st.o g1 0 = some (.blk 1 (n + 1) 3 cl1)) (h2 : st.o 2 0 = some (.blk 1 1 105 cb)) (k2 : st.o g2 0 = some (.blk 7 (n + 1) 27 (setC cl2 n 0 ds)))
    (s2 : ∀ j, j < 7 → ds.getD j .any = conC x j) (hl : ds.length = 7) (b1 : 7 ≤ g1) (b2 : g1 < st.nx) (b3 : 7 ≤ g2) (b4 : g2 < st.nx) : DaL (E ++ [(y.1, x)]) st := by
  subst hE
  have e1 : (E ++ [(y.1, x)]).map (·.1) = (E ++ [y]).map (·.1) := by simp
  have e2 : (E ++ [(y.1, x)]).map (·.2) = ((E ++ [y]).map (·.2)).set E.length x := by
    rw [List.map_append, List.map_append]
    rw [List.set_append_right _ _ (by simp)]
    simp
  have l1 : ((E ++ [y]).map (·.1)).length = E.length + 1 := by simp
  have l2 : ((E ++ [y]).map (·.2)).length = E.length + 1 := by simp
  refine ⟨⟨_, _, h1, rfl, fun h => by simp at h, ?_⟩, ⟨_, _, h2, rfl, fun h => by simp at h, ?_⟩⟩
  · rw [e1, hca]
    exact .inr ⟨g1, cl1, by rw [l1], b1, b2, by rw [l1]; exact k1, c1⟩
  · rw [e2, hcb]
    exact .inr ⟨g2, _, by rw [List.length_set, l2], b3, b4, by rw [List.length_set, l2]; exact k2, set_rows (by rw [l2]; omega) hl s2 c2⟩
theorem starts_valid {c : Es.Contract} (h : (Es.valid2 c).1 = 0) : ∀ x ∈ c.clauses, x.start.length ≤ 8 := by
  intro x hx
  obtain ⟨j, hj, rfl⟩ := List.getElem_of_mem hx
  have h1 := (Es.clauseOk_start (Es.valid2_clause (by simpa using h) (j := j) hj)).1
  rw [Es.at_nat hj] at h1
  simp only [Es.len] at h1; omega
/-- The last of the contracts. -/
def lastE (c : Es.Contract) (E : List (Int × Es.Contract)) : Es.Contract := (E.getLast?.map (·.2)).getD c
theorem lastE_snoc (c : Es.Contract) (E : List (Int × Es.Contract)) (y : Int × Es.Contract) : lastE c (E ++ [y]) = y.2 := by simp [lastE]
theorem lastE_cons (c : Es.Contract) (E : List (Int × Es.Contract)) (y : Int × Es.Contract) : lastE c (y :: E) = lastE y.2 E := by
  simp only [lastE, List.getLast?_cons, Option.map_some, Option.getD_some]
  cases E.getLast? <;> rfl
theorem turnsA_snoc : ∀ (E : List (Int × Es.Contract)) (c : Es.Contract) (y : Int × Es.Contract), Es.turnsA c (E ++ [y]) = Es.turnsA c E ++ (if Es.eqL Es.eqClause y.2.clauses (lastE c E).clauses then [] else [y.1])
  | [], c, y => by
    simp only [List.nil_append, Es.turnsA, lastE, List.getLast?_nil, Option.map_none, Option.getD_none]
    split <;> (rename_i h; simp [h])
  | z :: E, c, y => by
    rw [List.cons_append, Es.turnsA, Es.turnsA, turnsA_snoc E z.2 y, lastE_cons]
    split <;> simp
theorem turnsA_len : ∀ (E : List (Int × Es.Contract)) (c : Es.Contract), (Es.turnsA c E).length ≤ E.length
  | [], c => Nat.le_refl _
  | z :: E, c => by
    have := turnsA_len E z.2
    rw [Es.turnsA]
    split <;> simp <;> omega
theorem ends_row (x : Es.Contract) (j : Nat) (hj : j < 7) : List.getD [.v (.int .i64 x.parties), slD 1 intC x.holders, slD 5 untC x.units, slD 7 actC x.acts, slD 16 clsC x.clauses, .v (.int .i64 x.days), slD 1 intC x.off] j D.any = conC x j := by
  rcases (show j = 0 ∨ j = 1 ∨ j = 2 ∨ j = 3 ∨ j = 4 ∨ j = 5 ∨ j = 6 by omega) with rfl | rfl | rfl | rfl | rfl | rfl | rfl <;> rfl
set_option maxHeartbeats 8000000 in
theorem days_spec (c : Es.Contract) (l : List Es.Amend) (known : Int) (hf : Es.Fits c) (hl : l.length ≤ 12) : APure M 32 [conD c, slD 22 amdC l, .v (.int .i64 known)] (resL2 (Es.daysA c l known)) := by
  refine pure_of gpu func32 rfl results32 ntmps32 (by simp) ⟨pu_conD _, pu_slD pu_amdC _, .v _, trivial⟩ ?_
  intro b
  simp only [go_sem, ↓reduceIte, reduceCtorEq, Nat.reduceEqDiff, Nat.reduceLT, Nat.reduceLeDiff, Nat.reduceAdd, Nat.reduceSub, Nat.reduceMul, Nat.reduceGT, Int.reduceNeg, Int.reduceToNat]
  repeat' (first | ((with_reducible refine call_at M_P M_G (check_spec c l hf) ?_); simp only [go_sem, ↓reduceIte, reduceCtorEq, Nat.reduceEqDiff, Nat.reduceLT, Nat.reduceLeDiff, Nat.reduceAdd, Nat.reduceSub, Nat.reduceMul, Nat.reduceGT, Int.reduceNeg, Int.reduceToNat]) | (with_reducible refine And.intro ?_ ?_) | ((with_reducible refine ite_cases ?_ ?_) <;> intro _))
  · rw [show Es.daysA c l known = ([], Es.checkA c l) by unfold Es.daysA; rw [if_pos (by simp_all)]]
    exact Fz_tup ⟨.nil _ _, .v _, trivial⟩
  have hck : Es.checkA c l = 0 := by simp_all
  have hres : Es.daysA c l known = (Es.turnsA c (Es.endsA (Es.versionsA known (Es.sortedA l) c)), 0) := by
    unfold Es.daysA; rw [if_neg (by simp [hck])]
  rw [hres]
  generalize hit : Es.versionsA known (Es.sortedA l) c = items
  have hitl : items.length ≤ 12 := by rw [← hit]; exact Nat.le_trans (Es.versionsA_len _ _ _) (by rw [Es.sortedA, Es.isort_len]; exact hl)
  refine versions_spec _ _ _ _ c l known _ _ _ ?_
  simp only [go_sem, ↓reduceIte, reduceCtorEq, Nat.reduceEqDiff, Nat.reduceLT, Nat.reduceLeDiff, Nat.reduceAdd, Nat.reduceSub, Nat.reduceMul, Nat.reduceGT, Int.reduceNeg, Int.reduceToNat]
  refine awp_rangeFunc rfl (by simp) (gf := 85) (caps := [.mp 4 0 1 0 0, .mp 5 0 1 0 0, .mp 3 0 7 0 0]) (by simp only [go_sem, ↓reduceIte, reduceCtorEq, Nat.reduceEqDiff, Nat.reduceLT, Nat.reduceLeDiff, Nat.reduceAdd, Nat.reduceSub, Nat.reduceMul, Nat.reduceGT, Int.reduceNeg, Int.reduceToNat]) (by simp only [go_sem, ↓reduceIte, reduceCtorEq, Nat.reduceEqDiff, Nat.reduceLT, Nat.reduceLeDiff, Nat.reduceAdd, Nat.reduceSub, Nat.reduceMul, Nat.reduceGT, Int.reduceNeg, Int.reduceToNat]) ?_
  intro X2 y rd bz dn hround
  refine versions1_spec X2 _ _ _ y c l known hf hl 3 4 5 _ _ _ _ _ (by simp only [go_sem, ↓reduceIte, reduceCtorEq, Nat.reduceEqDiff, Nat.reduceLT, Nat.reduceLeDiff, Nat.reduceAdd, Nat.reduceSub, Nat.reduceMul, Nat.reduceGT, Int.reduceNeg, Int.reduceToNat]; omega) (by simp only [go_sem, ↓reduceIte, reduceCtorEq, Nat.reduceEqDiff, Nat.reduceLT, Nat.reduceLeDiff, Nat.reduceAdd, Nat.reduceSub, Nat.reduceMul, Nat.reduceGT, Int.reduceNeg, Int.reduceToNat]; rfl) (by simp only [go_sem, ↓reduceIte, reduceCtorEq, Nat.reduceEqDiff, Nat.reduceLT, Nat.reduceLeDiff, Nat.reduceAdd, Nat.reduceSub, Nat.reduceMul, Nat.reduceGT, Int.reduceNeg, Int.reduceToNat]; rfl) (by simp only [go_sem, ↓reduceIte, reduceCtorEq, Nat.reduceEqDiff, Nat.reduceLT, Nat.reduceLeDiff, Nat.reduceAdd, Nat.reduceSub, Nat.reduceMul, Nat.reduceGT, Int.reduceNeg, Int.reduceToNat]; rfl)
    (fun i st => 7 ≤ st.nx ∧ st.o 0 0 = some (.blk 7 1 27 (rowOf (conCells c))) ∧ DaL (Es.endsA (items.take i)) st ∧ st.o 6 0 = some rd) (fun _ => False) ?_ ?_ ?_ _ ?_ ?_
  · rintro i o nx o' nx' ⟨h0, h1, h2, h3⟩ hn hs
    simp only at h0
    exact ⟨by simp only; omega, (hs 0 0 (by omega) (by omega)).trans h1, h2.same h0 hn fun f j h1 h2 _ => hs f j h1 h2, (hs 6 0 (by omega) (by omega)).trans h3⟩
  · rw [hit]
    intro N' b' i z o1 n1 hz hn ⟨hx, hJ0, hL, hrec⟩
    have hnext : items.take (i + 1) = items.take i ++ [z] := by
      obtain ⟨h1, h2⟩ := List.getElem?_eq_some_iff.1 hz
      rw [List.take_succ_eq_append_getElem h1, h2]
    refine around_ctx (hround _ _ _ (by simp) hrec ?_)
    refine wpA_sound _ _ _ _ ?_
    generalize hE : Es.endsA (items.take i) = E at hL
    obtain ⟨d1, cell1, F1, hcell1, hn1, hO1⟩ := hL.day
    obtain ⟨d2, cell2, F2, hcell2, hn2, hO2⟩ := hL.ends
    simp only at hx F1 F2 hrec hJ0
    have e0 : ∀ {a b : Nat}, a ≠ b → (a = b) = False := fun h => by simp [h]
    have z1 : (0 = 1) = False := e0 (by omega); have z2 : (0 = 2) = False := e0 (by omega); have z3 : (0 = 3) = False := e0 (by omega); have z4 : (0 = 5) = False := e0 (by omega); have z5 : (0 = 6) = False := e0 (by omega); have z6 : (0 = n1) = False := e0 (by omega); have z7 : (0 = n1 + 1) = False := e0 (by omega); have z8 : (1 = 0) = False := e0 (by omega); have z9 : (1 = 2) = False := e0 (by omega); have z10 : (1 = 3) = False := e0 (by omega); have z11 : (1 = 5) = False := e0 (by omega); have z12 : (1 = 6) = False := e0 (by omega); have z13 : (1 = n1) = False := e0 (by omega); have z14 : (1 = n1 + 1) = False := e0 (by omega); have z15 : (2 = 0) = False := e0 (by omega); have z16 : (2 = 1) = False := e0 (by omega); have z17 : (2 = 3) = False := e0 (by omega); have z18 : (2 = 5) = False := e0 (by omega); have z19 : (2 = 6) = False := e0 (by omega); have z20 : (2 = n1) = False := e0 (by omega); have z21 : (2 = n1 + 1) = False := e0 (by omega); have z22 : (3 = 0) = False := e0 (by omega); have z23 : (3 = 1) = False := e0 (by omega); have z24 : (3 = 2) = False := e0 (by omega); have z25 : (3 = 5) = False := e0 (by omega); have z26 : (3 = 6) = False := e0 (by omega); have z27 : (3 = n1) = False := e0 (by omega); have z28 : (3 = n1 + 1) = False := e0 (by omega); have z29 : (5 = 0) = False := e0 (by omega); have z30 : (5 = 1) = False := e0 (by omega); have z31 : (5 = 2) = False := e0 (by omega); have z32 : (5 = 3) = False := e0 (by omega); have z33 : (5 = 6) = False := e0 (by omega); have z34 : (5 = n1) = False := e0 (by omega); have z35 : (5 = n1 + 1) = False := e0 (by omega); have z36 : (6 = 0) = False := e0 (by omega); have z37 : (6 = 1) = False := e0 (by omega); have z38 : (6 = 2) = False := e0 (by omega); have z39 : (6 = 3) = False := e0 (by omega); have z40 : (6 = 5) = False := e0 (by omega); have z41 : (6 = n1) = False := e0 (by omega); have z42 : (6 = n1 + 1) = False := e0 (by omega); have z43 : (n1 = 0) = False := e0 (by omega); have z44 : (n1 = 1) = False := e0 (by omega); have z45 : (n1 = 2) = False := e0 (by omega); have z46 : (n1 = 3) = False := e0 (by omega); have z47 : (n1 = 5) = False := e0 (by omega); have z48 : (n1 = 6) = False := e0 (by omega); have z49 : (n1 = n1 + 1) = False := e0 (by omega); have z50 : (n1 + 1 = 0) = False := e0 (by omega); have z51 : (n1 + 1 = 1) = False := e0 (by omega); have z52 : (n1 + 1 = 2) = False := e0 (by omega); have z53 : (n1 + 1 = 3) = False := e0 (by omega); have z54 : (n1 + 1 = 5) = False := e0 (by omega); have z55 : (n1 + 1 = 6) = False := e0 (by omega); have z56 : (n1 + 1 = n1) = False := e0 (by omega)
    simp only [go_sem, ↓reduceIte, reduceCtorEq, Nat.reduceEqDiff, Nat.reduceLT, Nat.reduceLeDiff, Nat.reduceAdd, Nat.reduceSub, Nat.reduceMul, Nat.reduceGT, Int.reduceNeg, Int.reduceToNat, envAt, F1, F2, hrec, hcell1, hcell2, z1, z2, z3, z4, z5, z6, z7, z8, z9, z10, z11, z12, z13, z14, z15, z16, z17, z18, z19, z20, z21, z22, z23, z24, z25, z26, z27, z28, z29, z30, z31, z32, z33, z34, z35, z36, z37, z38, z39, z40, z41, z42, z43, z44, z45, z46, z47, z48, z49, z50, z51, z52, z53, z54, z55, z56]
    refine wpA_sound _ _ _ _ ?_
    simp only [go_sem, ↓reduceIte, reduceCtorEq, Nat.reduceEqDiff, Nat.reduceLT, Nat.reduceLeDiff, Nat.reduceAdd, Nat.reduceSub, Nat.reduceMul, Nat.reduceGT, Int.reduceNeg, Int.reduceToNat, F1, F2, hrec, hcell1, hcell2, z1, z2, z3, z4, z5, z6, z7, z8, z9, z10, z11, z12, z13, z14, z15, z16, z17, z18, z19, z20, z21, z22, z23, z24, z25, z26, z27, z28, z29, z30, z31, z32, z33, z34, z35, z36, z37, z38, z39, z40, z41, z42, z43, z44, z45, z46, z47, z48, z49, z50, z51, z52, z53, z54, z55, z56]
    have h00 : ((0 : Int) == 0) = true := rfl
    have hEE : E = [] ∨ ∃ E' y', E = E' ++ [y'] := by
      by_cases h : E = []
      · exact .inl h
      · exact .inr ⟨E.dropLast, E.getLast h, (List.dropLast_concat_getLast h).symm⟩
    rcases hEE with rfl | ⟨E', y', rfl⟩
    · have hd1 := hn1 rfl
      have hd2 := hn2 rfl
      subst hd1 hd2
      simp only [go_sem, ↓reduceIte, reduceCtorEq, Nat.reduceEqDiff, Nat.reduceLT, Nat.reduceLeDiff, Nat.reduceAdd, Nat.reduceSub, Nat.reduceMul, Nat.reduceGT, Int.reduceNeg, Int.reduceToNat, F1, F2, hrec, hcell1, hcell2, z1, z2, z3, z4, z5, z6, z7, z8, z9, z10, z11, z12, z13, z14, z15, z16, z17, z18, z19, z20, z21, z22, z23, z24, z25, z26, z27, z28, z29, z30, z31, z32, z33, z34, z35, z36, z37, z38, z39, z40, z41, z42, z43, z44, z45, z46, z47, z48, z49, z50, z51, z52, z53, z54, z55, z56]
      refine awp_plan ((.op 0 (.op 1 (.op 2 (.op 3 (.op 4 (.op 5 (.op 6 (.op 7 (.op 8 (.op 9 (.op 10 (.op 11 .done))))))))))))) [] mix (by kernel_rfl) ?_
      simp only [go_sem, ↓reduceIte, reduceCtorEq, Nat.reduceEqDiff, Nat.reduceLT, Nat.reduceLeDiff, Nat.reduceAdd, Nat.reduceSub, Nat.reduceMul, Nat.reduceGT, Int.reduceNeg, Int.reduceToNat, F1, F2, hrec, hcell1, hcell2, z1, z2, z3, z4, z5, z6, z7, z8, z9, z10, z11, z12, z13, z14, z15, z16, z17, z18, z19, z20, z21, z22, z23, z24, z25, z26, z27, z28, z29, z30, z31, z32, z33, z34, z35, z36, z37, z38, z39, z40, z41, z42, z43, z44, z45, z46, z47, z48, z49, z50, z51, z52, z53, z54, z55, z56, h00]
      refine AWp.mono (Q := fun x e s' => x = .normal ∧ DaP n1 o1 bz (Es.pushE [] z) s') ?_ ?_
      rotate_left
      ·
        rintro x e ⟨o3, n3⟩ ⟨rfl, hP⟩
        have hx3 := hP.nxt
        simp only at hx3
        refine ⟨hP.rcd, hx3, (put_ne (by decide)).trans hP.var, (put_ne (by decide)).trans hP.kno, rfl, by show 7 ≤ n3; omega, (put_ne (by decide)).trans (hP.con.trans hJ0), ?_, put_self⟩
        rw [hnext, endsA_snoc, hE]
        exact hP.lst.same (by omega) (Nat.le_refl _) fun f j h1 h2 h3 => put_ne h3
      refine awp_wf fun hw => ?_
      have hwn : ∀ k, n1 + 2 ≤ k → o1 k 0 = none := fun k hk => by
        have := hw k 0 (by simp only; omega)
        simp only [St.set] at this
        (repeat rw [if_neg (by omega)] at this)
        exact this
      have w2 := hwn (n1 + 1 + 1) (by omega)
      have w3 := hwn (n1 + 1 + 1 + 1) (by omega)
      have w4 := hwn (n1 + 1 + 1 + 1 + 1) (by omega)
      have w5 := hwn (n1 + 1 + 1 + 1 + 1 + 1) (by omega)
      have w1 : (0 = 1) = False := e0 (by omega); have w2 : (0 = 2) = False := e0 (by omega); have w3 : (0 = 3) = False := e0 (by omega); have w4 : (0 = 5) = False := e0 (by omega); have w5 : (0 = 6) = False := e0 (by omega); have w6 : (0 = n1) = False := e0 (by omega); have w7 : (0 = n1 + 1) = False := e0 (by omega); have w8 : (0 = n1 + 1 + 1) = False := e0 (by omega); have w9 : (0 = n1 + 1 + 1 + 1) = False := e0 (by omega); have w10 : (0 = n1 + 1 + 1 + 1 + 1) = False := e0 (by omega); have w11 : (0 = n1 + 1 + 1 + 1 + 1 + 1) = False := e0 (by omega); have w12 : (1 = 0) = False := e0 (by omega); have w13 : (1 = 2) = False := e0 (by omega); have w14 : (1 = 3) = False := e0 (by omega); have w15 : (1 = 5) = False := e0 (by omega); have w16 : (1 = 6) = False := e0 (by omega); have w17 : (1 = n1) = False := e0 (by omega); have w18 : (1 = n1 + 1) = False := e0 (by omega); have w19 : (1 = n1 + 1 + 1) = False := e0 (by omega); have w20 : (1 = n1 + 1 + 1 + 1) = False := e0 (by omega); have w21 : (1 = n1 + 1 + 1 + 1 + 1) = False := e0 (by omega); have w22 : (1 = n1 + 1 + 1 + 1 + 1 + 1) = False := e0 (by omega); have w23 : (2 = 0) = False := e0 (by omega); have w24 : (2 = 1) = False := e0 (by omega); have w25 : (2 = 3) = False := e0 (by omega); have w26 : (2 = 5) = False := e0 (by omega); have w27 : (2 = 6) = False := e0 (by omega); have w28 : (2 = n1) = False := e0 (by omega); have w29 : (2 = n1 + 1) = False := e0 (by omega); have w30 : (2 = n1 + 1 + 1) = False := e0 (by omega); have w31 : (2 = n1 + 1 + 1 + 1) = False := e0 (by omega); have w32 : (2 = n1 + 1 + 1 + 1 + 1) = False := e0 (by omega); have w33 : (2 = n1 + 1 + 1 + 1 + 1 + 1) = False := e0 (by omega); have w34 : (3 = 0) = False := e0 (by omega); have w35 : (3 = 1) = False := e0 (by omega); have w36 : (3 = 2) = False := e0 (by omega); have w37 : (3 = 5) = False := e0 (by omega); have w38 : (3 = 6) = False := e0 (by omega); have w39 : (3 = n1) = False := e0 (by omega); have w40 : (3 = n1 + 1) = False := e0 (by omega); have w41 : (3 = n1 + 1 + 1) = False := e0 (by omega); have w42 : (3 = n1 + 1 + 1 + 1) = False := e0 (by omega); have w43 : (3 = n1 + 1 + 1 + 1 + 1) = False := e0 (by omega); have w44 : (3 = n1 + 1 + 1 + 1 + 1 + 1) = False := e0 (by omega); have w45 : (5 = 0) = False := e0 (by omega); have w46 : (5 = 1) = False := e0 (by omega); have w47 : (5 = 2) = False := e0 (by omega); have w48 : (5 = 3) = False := e0 (by omega); have w49 : (5 = 6) = False := e0 (by omega); have w50 : (5 = n1) = False := e0 (by omega); have w51 : (5 = n1 + 1) = False := e0 (by omega); have w52 : (5 = n1 + 1 + 1) = False := e0 (by omega); have w53 : (5 = n1 + 1 + 1 + 1) = False := e0 (by omega); have w54 : (5 = n1 + 1 + 1 + 1 + 1) = False := e0 (by omega); have w55 : (5 = n1 + 1 + 1 + 1 + 1 + 1) = False := e0 (by omega); have w56 : (6 = 0) = False := e0 (by omega); have w57 : (6 = 1) = False := e0 (by omega); have w58 : (6 = 2) = False := e0 (by omega); have w59 : (6 = 3) = False := e0 (by omega); have w60 : (6 = 5) = False := e0 (by omega); have w61 : (6 = n1) = False := e0 (by omega); have w62 : (6 = n1 + 1) = False := e0 (by omega); have w63 : (6 = n1 + 1 + 1) = False := e0 (by omega); have w64 : (6 = n1 + 1 + 1 + 1) = False := e0 (by omega); have w65 : (6 = n1 + 1 + 1 + 1 + 1) = False := e0 (by omega); have w66 : (6 = n1 + 1 + 1 + 1 + 1 + 1) = False := e0 (by omega); have w67 : (n1 = 0) = False := e0 (by omega); have w68 : (n1 = 1) = False := e0 (by omega); have w69 : (n1 = 2) = False := e0 (by omega); have w70 : (n1 = 3) = False := e0 (by omega); have w71 : (n1 = 5) = False := e0 (by omega); have w72 : (n1 = 6) = False := e0 (by omega); have w73 : (n1 = n1 + 1) = False := e0 (by omega); have w74 : (n1 = n1 + 1 + 1) = False := e0 (by omega); have w75 : (n1 = n1 + 1 + 1 + 1) = False := e0 (by omega); have w76 : (n1 = n1 + 1 + 1 + 1 + 1) = False := e0 (by omega); have w77 : (n1 = n1 + 1 + 1 + 1 + 1 + 1) = False := e0 (by omega); have w78 : (n1 + 1 = 0) = False := e0 (by omega); have w79 : (n1 + 1 = 1) = False := e0 (by omega); have w80 : (n1 + 1 = 2) = False := e0 (by omega); have w81 : (n1 + 1 = 3) = False := e0 (by omega); have w82 : (n1 + 1 = 5) = False := e0 (by omega); have w83 : (n1 + 1 = 6) = False := e0 (by omega); have w84 : (n1 + 1 = n1) = False := e0 (by omega); have w85 : (n1 + 1 = n1 + 1 + 1) = False := e0 (by omega); have w86 : (n1 + 1 = n1 + 1 + 1 + 1) = False := e0 (by omega); have w87 : (n1 + 1 = n1 + 1 + 1 + 1 + 1) = False := e0 (by omega); have w88 : (n1 + 1 = n1 + 1 + 1 + 1 + 1 + 1) = False := e0 (by omega); have w89 : (n1 + 1 + 1 = 0) = False := e0 (by omega); have w90 : (n1 + 1 + 1 = 1) = False := e0 (by omega); have w91 : (n1 + 1 + 1 = 2) = False := e0 (by omega); have w92 : (n1 + 1 + 1 = 3) = False := e0 (by omega); have w93 : (n1 + 1 + 1 = 5) = False := e0 (by omega); have w94 : (n1 + 1 + 1 = 6) = False := e0 (by omega); have w95 : (n1 + 1 + 1 = n1) = False := e0 (by omega); have w96 : (n1 + 1 + 1 = n1 + 1) = False := e0 (by omega); have w97 : (n1 + 1 + 1 = n1 + 1 + 1 + 1) = False := e0 (by omega); have w98 : (n1 + 1 + 1 = n1 + 1 + 1 + 1 + 1) = False := e0 (by omega); have w99 : (n1 + 1 + 1 = n1 + 1 + 1 + 1 + 1 + 1) = False := e0 (by omega); have w100 : (n1 + 1 + 1 + 1 = 0) = False := e0 (by omega); have w101 : (n1 + 1 + 1 + 1 = 1) = False := e0 (by omega); have w102 : (n1 + 1 + 1 + 1 = 2) = False := e0 (by omega); have w103 : (n1 + 1 + 1 + 1 = 3) = False := e0 (by omega); have w104 : (n1 + 1 + 1 + 1 = 5) = False := e0 (by omega); have w105 : (n1 + 1 + 1 + 1 = 6) = False := e0 (by omega); have w106 : (n1 + 1 + 1 + 1 = n1) = False := e0 (by omega); have w107 : (n1 + 1 + 1 + 1 = n1 + 1) = False := e0 (by omega); have w108 : (n1 + 1 + 1 + 1 = n1 + 1 + 1) = False := e0 (by omega); have w109 : (n1 + 1 + 1 + 1 = n1 + 1 + 1 + 1 + 1) = False := e0 (by omega); have w110 : (n1 + 1 + 1 + 1 = n1 + 1 + 1 + 1 + 1 + 1) = False := e0 (by omega); have w111 : (n1 + 1 + 1 + 1 + 1 = 0) = False := e0 (by omega); have w112 : (n1 + 1 + 1 + 1 + 1 = 1) = False := e0 (by omega); have w113 : (n1 + 1 + 1 + 1 + 1 = 2) = False := e0 (by omega); have w114 : (n1 + 1 + 1 + 1 + 1 = 3) = False := e0 (by omega); have w115 : (n1 + 1 + 1 + 1 + 1 = 5) = False := e0 (by omega); have w116 : (n1 + 1 + 1 + 1 + 1 = 6) = False := e0 (by omega); have w117 : (n1 + 1 + 1 + 1 + 1 = n1) = False := e0 (by omega); have w118 : (n1 + 1 + 1 + 1 + 1 = n1 + 1) = False := e0 (by omega); have w119 : (n1 + 1 + 1 + 1 + 1 = n1 + 1 + 1) = False := e0 (by omega); have w120 : (n1 + 1 + 1 + 1 + 1 = n1 + 1 + 1 + 1) = False := e0 (by omega); have w121 : (n1 + 1 + 1 + 1 + 1 = n1 + 1 + 1 + 1 + 1 + 1) = False := e0 (by omega); have w122 : (n1 + 1 + 1 + 1 + 1 + 1 = 0) = False := e0 (by omega); have w123 : (n1 + 1 + 1 + 1 + 1 + 1 = 1) = False := e0 (by omega); have w124 : (n1 + 1 + 1 + 1 + 1 + 1 = 2) = False := e0 (by omega); have w125 : (n1 + 1 + 1 + 1 + 1 + 1 = 3) = False := e0 (by omega); have w126 : (n1 + 1 + 1 + 1 + 1 + 1 = 5) = False := e0 (by omega); have w127 : (n1 + 1 + 1 + 1 + 1 + 1 = 6) = False := e0 (by omega); have w128 : (n1 + 1 + 1 + 1 + 1 + 1 = n1) = False := e0 (by omega); have w129 : (n1 + 1 + 1 + 1 + 1 + 1 = n1 + 1) = False := e0 (by omega); have w130 : (n1 + 1 + 1 + 1 + 1 + 1 = n1 + 1 + 1) = False := e0 (by omega); have w131 : (n1 + 1 + 1 + 1 + 1 + 1 = n1 + 1 + 1 + 1) = False := e0 (by omega); have w132 : (n1 + 1 + 1 + 1 + 1 + 1 = n1 + 1 + 1 + 1 + 1) = False := e0 (by omega)
      refine awp_plan ((.op 0 (.op 1 (.op 2 (.alt 3 (.alt 4 (.op 5 (.op 6 (.op 7 (.op 8 (.op 9 (.op 10 .done)))))) (.alt 5 (.alt 4 (.op 6 (.op 7 (.op 8 (.op 9 (.op 10 .done))))) (.alt 6 (.alt 4 (.op 7 (.op 8 (.op 9 (.op 10 .done)))) (.alt 7 (.op 4 (.op 8 (.op 9 (.op 10 .done)))) .dead)) .dead)) (.alt 6 (.alt 4 (.op 5 (.op 7 (.op 8 (.op 9 (.op 10 .done))))) (.alt 5 (.alt 4 (.op 7 (.op 8 (.op 9 (.op 10 .done)))) (.alt 7 (.op 4 (.op 8 (.op 9 (.op 10 .done)))) .dead)) (.alt 7 (.alt 4 (.op 5 (.op 8 (.op 9 (.op 10 .done)))) (.alt 5 (.op 4 (.op 8 (.op 9 (.op 10 .done)))) .dead)) .dead))) .dead))) (.alt 5 (.alt 3 (.alt 4 (.op 6 (.op 7 (.op 8 (.op 9 (.op 10 .done))))) (.alt 6 (.alt 4 (.op 7 (.op 8 (.op 9 (.op 10 .done)))) (.alt 7 (.op 4 (.op 8 (.op 9 (.op 10 .done)))) .dead)) .dead)) (.alt 6 (.alt 3 (.alt 4 (.op 7 (.op 8 (.op 9 (.op 10 .done)))) (.alt 7 (.op 4 (.op 8 (.op 9 (.op 10 .done)))) .dead)) (.alt 7 (.op 3 (.op 4 (.op 8 (.op 9 (.op 10 .done))))) .dead)) .dead)) (.alt 6 (.alt 3 (.alt 4 (.op 5 (.op 7 (.op 8 (.op 9 (.op 10 .done))))) (.alt 5 (.alt 4 (.op 7 (.op 8 (.op 9 (.op 10 .done)))) (.alt 7 (.op 4 (.op 8 (.op 9 (.op 10 .done)))) .dead)) (.alt 7 (.alt 4 (.op 5 (.op 8 (.op 9 (.op 10 .done)))) (.alt 5 (.op 4 (.op 8 (.op 9 (.op 10 .done)))) .dead)) .dead))) (.alt 5 (.alt 3 (.alt 4 (.op 7 (.op 8 (.op 9 (.op 10 .done)))) (.alt 7 (.op 4 (.op 8 (.op 9 (.op 10 .done)))) .dead)) (.alt 7 (.op 3 (.op 4 (.op 8 (.op 9 (.op 10 .done))))) .dead)) (.alt 7 (.alt 3 (.alt 4 (.op 5 (.op 8 (.op 9 (.op 10 .done)))) (.alt 5 (.op 4 (.op 8 (.op 9 (.op 10 .done)))) .dead)) (.alt 5 (.op 3 (.op 4 (.op 8 (.op 9 (.op 10 .done))))) .dead)) .dead))) .dead))))))) [4, 8, 9, 10] mix (by kernel_rfl) ?_
      simp only [go_sem, ↓reduceIte, reduceCtorEq, Nat.reduceEqDiff, Nat.reduceLT, Nat.reduceLeDiff, Nat.reduceAdd, Nat.reduceSub, Nat.reduceMul, Nat.reduceGT, Int.reduceNeg, Int.reduceToNat, F1, F2, hrec, hcell1, hcell2, w2, w3, w4, w5, w1, w2, w3, w4, w5, w6, w7, w8, w9, w10, w11, w12, w13, w14, w15, w16, w17, w18, w19, w20, w21, w22, w23, w24, w25, w26, w27, w28, w29, w30, w31, w32, w33, w34, w35, w36, w37, w38, w39, w40, w41, w42, w43, w44, w45, w46, w47, w48, w49, w50, w51, w52, w53, w54, w55, w56, w57, w58, w59, w60, w61, w62, w63, w64, w65, w66, w67, w68, w69, w70, w71, w72, w73, w74, w75, w76, w77, w78, w79, w80, w81, w82, w83, w84, w85, w86, w87, w88, w89, w90, w91, w92, w93, w94, w95, w96, w97, w98, w99, w100, w101, w102, w103, w104, w105, w106, w107, w108, w109, w110, w111, w112, w113, w114, w115, w116, w117, w118, w119, w120, w121, w122, w123, w124, w125, w126, w127, w128, w129, w130, w131, w132]
      rw [pushE_nil]
      repeat' (first | (with_reducible refine And.intro ?_ ?_) | ((with_reducible refine ite_cases ?_ ?_) <;> intro _))
      all_goals first
        | (refine keeps_set ?_; (repeat (refine (set_ne (by omega)).trans ?_)); exact hwn _ (by omega))
        | skip
      all_goals apply DaP.one
      all_goals first
        | ((repeat (refine (set_ne (by omega)).trans ?_)); first | exact St_set_self _ _ _ _ | rfl | exact F1 | exact F2 | exact a3 | exact b3)
        | skip
      all_goals first
        | ((repeat (refine (set_ne (by omega)).trans ?_)); first | exact St_set_self _ _ _ _ | exact F1 | exact F2 | exact a3 | exact b3)
        | (simp only; omega)
        | omega
        | (exact fun j hj => ends_row _ j hj)
        | rfl
    · have hl1 : ((E' ++ [y']).map (·.1)).length = E'.length + 1 := by simp
      have hl2 : ((E' ++ [y']).map (·.2)).length = E'.length + 1 := by simp
      have hle : E'.length + 1 ≤ 12 := by
        have h := endsA_len (items.take i)
        rw [hE, List.length_take] at h
        simp only [List.length_append, List.length_cons, List.length_nil] at h
        omega
      rcases hO1 with ⟨h, _⟩ | ⟨g1, cl1, hd1, a1, a2, a3, a4⟩
      · simp at h
      rcases hO2 with ⟨h, _⟩ | ⟨g2, cl2, hd2, b1, b2, b3, b4⟩
      · simp at h
      rw [hl1] at hd1 a3
      rw [hl2] at hd2 b3
      subst hd1 hd2
      simp only at a2 a3 b2 b3
      have hg : g1 ≠ g2 := fun h => by rw [h, b3] at a3; simp at a3
      have hc : cl1 E'.length 0 = .v (.int .i64 y'.1) := by
        rw [a4 E'.length 0 (by rw [hl1]; omega) (by omega)]
        simp [rowsOf, List.getD_eq_getElem?_getD]
        rfl
      have hw : IntKind.i64.wrap (((E'.length + 1 : Nat) : Int) - 1) = (E'.length : Int) := by rw [wrap_i64 _ (by omega) (by omega)]; omega
      have hne : ((((E'.length + 1 : Nat) : Int)) == 0) = false := by rw [beq_eq_false_iff_ne]; omega
      have w1 : (0 = 1) = False := e0 (by omega); have w2 : (0 = 2) = False := e0 (by omega); have w3 : (0 = 3) = False := e0 (by omega); have w4 : (0 = 5) = False := e0 (by omega); have w5 : (0 = 6) = False := e0 (by omega); have w6 : (0 = g1) = False := e0 (by omega); have w7 : (0 = g2) = False := e0 (by omega); have w8 : (0 = n1) = False := e0 (by omega); have w9 : (0 = n1 + 1) = False := e0 (by omega); have w10 : (1 = 0) = False := e0 (by omega); have w11 : (1 = 2) = False := e0 (by omega); have w12 : (1 = 3) = False := e0 (by omega); have w13 : (1 = 5) = False := e0 (by omega); have w14 : (1 = 6) = False := e0 (by omega); have w15 : (1 = g1) = False := e0 (by omega); have w16 : (1 = g2) = False := e0 (by omega); have w17 : (1 = n1) = False := e0 (by omega); have w18 : (1 = n1 + 1) = False := e0 (by omega); have w19 : (2 = 0) = False := e0 (by omega); have w20 : (2 = 1) = False := e0 (by omega); have w21 : (2 = 3) = False := e0 (by omega); have w22 : (2 = 5) = False := e0 (by omega); have w23 : (2 = 6) = False := e0 (by omega); have w24 : (2 = g1) = False := e0 (by omega); have w25 : (2 = g2) = False := e0 (by omega); have w26 : (2 = n1) = False := e0 (by omega); have w27 : (2 = n1 + 1) = False := e0 (by omega); have w28 : (3 = 0) = False := e0 (by omega); have w29 : (3 = 1) = False := e0 (by omega); have w30 : (3 = 2) = False := e0 (by omega); have w31 : (3 = 5) = False := e0 (by omega); have w32 : (3 = 6) = False := e0 (by omega); have w33 : (3 = g1) = False := e0 (by omega); have w34 : (3 = g2) = False := e0 (by omega); have w35 : (3 = n1) = False := e0 (by omega); have w36 : (3 = n1 + 1) = False := e0 (by omega); have w37 : (5 = 0) = False := e0 (by omega); have w38 : (5 = 1) = False := e0 (by omega); have w39 : (5 = 2) = False := e0 (by omega); have w40 : (5 = 3) = False := e0 (by omega); have w41 : (5 = 6) = False := e0 (by omega); have w42 : (5 = g1) = False := e0 (by omega); have w43 : (5 = g2) = False := e0 (by omega); have w44 : (5 = n1) = False := e0 (by omega); have w45 : (5 = n1 + 1) = False := e0 (by omega); have w46 : (6 = 0) = False := e0 (by omega); have w47 : (6 = 1) = False := e0 (by omega); have w48 : (6 = 2) = False := e0 (by omega); have w49 : (6 = 3) = False := e0 (by omega); have w50 : (6 = 5) = False := e0 (by omega); have w51 : (6 = g1) = False := e0 (by omega); have w52 : (6 = g2) = False := e0 (by omega); have w53 : (6 = n1) = False := e0 (by omega); have w54 : (6 = n1 + 1) = False := e0 (by omega); have w55 : (g1 = 0) = False := e0 (by omega); have w56 : (g1 = 1) = False := e0 (by omega); have w57 : (g1 = 2) = False := e0 (by omega); have w58 : (g1 = 3) = False := e0 (by omega); have w59 : (g1 = 5) = False := e0 (by omega); have w60 : (g1 = 6) = False := e0 (by omega); have w61 : (g1 = g2) = False := e0 (by omega); have w62 : (g1 = n1) = False := e0 (by omega); have w63 : (g1 = n1 + 1) = False := e0 (by omega); have w64 : (g2 = 0) = False := e0 (by omega); have w65 : (g2 = 1) = False := e0 (by omega); have w66 : (g2 = 2) = False := e0 (by omega); have w67 : (g2 = 3) = False := e0 (by omega); have w68 : (g2 = 5) = False := e0 (by omega); have w69 : (g2 = 6) = False := e0 (by omega); have w70 : (g2 = g1) = False := e0 (by omega); have w71 : (g2 = n1) = False := e0 (by omega); have w72 : (g2 = n1 + 1) = False := e0 (by omega); have w73 : (n1 = 0) = False := e0 (by omega); have w74 : (n1 = 1) = False := e0 (by omega); have w75 : (n1 = 2) = False := e0 (by omega); have w76 : (n1 = 3) = False := e0 (by omega); have w77 : (n1 = 5) = False := e0 (by omega); have w78 : (n1 = 6) = False := e0 (by omega); have w79 : (n1 = g1) = False := e0 (by omega); have w80 : (n1 = g2) = False := e0 (by omega); have w81 : (n1 = n1 + 1) = False := e0 (by omega); have w82 : (n1 + 1 = 0) = False := e0 (by omega); have w83 : (n1 + 1 = 1) = False := e0 (by omega); have w84 : (n1 + 1 = 2) = False := e0 (by omega); have w85 : (n1 + 1 = 3) = False := e0 (by omega); have w86 : (n1 + 1 = 5) = False := e0 (by omega); have w87 : (n1 + 1 = 6) = False := e0 (by omega); have w88 : (n1 + 1 = g1) = False := e0 (by omega); have w89 : (n1 + 1 = g2) = False := e0 (by omega); have w90 : (n1 + 1 = n1) = False := e0 (by omega)
      simp only [go_sem, ↓reduceIte, reduceCtorEq, Nat.reduceEqDiff, Nat.reduceLT, Nat.reduceLeDiff, Nat.reduceAdd, Nat.reduceSub, Nat.reduceMul, Nat.reduceGT, Int.reduceNeg, Int.reduceToNat, F1, F2, hrec, hcell1, hcell2, a3, b3, w1, w2, w3, w4, w5, w6, w7, w8, w9, w10, w11, w12, w13, w14, w15, w16, w17, w18, w19, w20, w21, w22, w23, w24, w25, w26, w27, w28, w29, w30, w31, w32, w33, w34, w35, w36, w37, w38, w39, w40, w41, w42, w43, w44, w45, w46, w47, w48, w49, w50, w51, w52, w53, w54, w55, w56, w57, w58, w59, w60, w61, w62, w63, w64, w65, w66, w67, w68, w69, w70, w71, w72, w73, w74, w75, w76, w77, w78, w79, w80, w81, w82, w83, w84, w85, w86, w87, w88, w89, w90]
      refine awp_plan ((.op 0 (.op 1 (.op 2 (.op 3 (.op 4 (.op 5 (.op 6 (.op 7 (.op 8 (.op 9 (.op 10 (.op 11 .done))))))))))))) [] mix (by kernel_rfl) ?_
      simp only [go_sem, ↓reduceIte, reduceCtorEq, Nat.reduceEqDiff, Nat.reduceLT, Nat.reduceLeDiff, Nat.reduceAdd, Nat.reduceSub, Nat.reduceMul, Nat.reduceGT, Int.reduceNeg, Int.reduceToNat, F1, F2, hrec, hcell1, hcell2, a3, b3, hw, hne, Int.toNat_natCast, Nat.zero_add, hc, w1, w2, w3, w4, w5, w6, w7, w8, w9, w10, w11, w12, w13, w14, w15, w16, w17, w18, w19, w20, w21, w22, w23, w24, w25, w26, w27, w28, w29, w30, w31, w32, w33, w34, w35, w36, w37, w38, w39, w40, w41, w42, w43, w44, w45, w46, w47, w48, w49, w50, w51, w52, w53, w54, w55, w56, w57, w58, w59, w60, w61, w62, w63, w64, w65, w66, w67, w68, w69, w70, w71, w72, w73, w74, w75, w76, w77, w78, w79, w80, w81, w82, w83, w84, w85, w86, w87, w88, w89, w90]
      split
      · rename_i hlt
        refine ⟨⟨by omega, by omega⟩, by omega, ?_⟩
        refine AWp.mono (Q := fun x e s' => x = .normal ∧ DaP n1 o1 bz (Es.pushE (E' ++ [y']) z) s') ?_ ?_
        rotate_left
        ·
          rintro x e ⟨o3, n3⟩ ⟨rfl, hP⟩
          have hx3 := hP.nxt
          simp only at hx3
          refine ⟨hP.rcd, hx3, (put_ne (by decide)).trans hP.var, (put_ne (by decide)).trans hP.kno, rfl, by show 7 ≤ n3; omega, (put_ne (by decide)).trans (hP.con.trans hJ0), ?_, put_self⟩
          rw [hnext, endsA_snoc, hE]
          exact hP.lst.same (by omega) (Nat.le_refl _) fun f j h1 h2 h3 => put_ne h3
        refine awp_wf fun hw => ?_
        have hwn : ∀ k, n1 + 2 ≤ k → o1 k 0 = none := fun k hk => by
          have := hw k 0 (by simp only; omega)
          simp only [St.set] at this
          (repeat rw [if_neg (by omega)] at this)
          exact this
        have w2 := hwn (n1 + 1 + 1) (by omega)
        have w3 := hwn (n1 + 1 + 1 + 1) (by omega)
        have w4 := hwn (n1 + 1 + 1 + 1 + 1) (by omega)
        have w5 := hwn (n1 + 1 + 1 + 1 + 1 + 1) (by omega)
        have w1 : (0 = 1) = False := e0 (by omega); have w2 : (0 = 2) = False := e0 (by omega); have w3 : (0 = 3) = False := e0 (by omega); have w4 : (0 = 5) = False := e0 (by omega); have w5 : (0 = 6) = False := e0 (by omega); have w6 : (0 = g1) = False := e0 (by omega); have w7 : (0 = g2) = False := e0 (by omega); have w8 : (0 = n1) = False := e0 (by omega); have w9 : (0 = n1 + 1) = False := e0 (by omega); have w10 : (0 = n1 + 1 + 1) = False := e0 (by omega); have w11 : (0 = n1 + 1 + 1 + 1) = False := e0 (by omega); have w12 : (0 = n1 + 1 + 1 + 1 + 1) = False := e0 (by omega); have w13 : (0 = n1 + 1 + 1 + 1 + 1 + 1) = False := e0 (by omega); have w14 : (1 = 0) = False := e0 (by omega); have w15 : (1 = 2) = False := e0 (by omega); have w16 : (1 = 3) = False := e0 (by omega); have w17 : (1 = 5) = False := e0 (by omega); have w18 : (1 = 6) = False := e0 (by omega); have w19 : (1 = g1) = False := e0 (by omega); have w20 : (1 = g2) = False := e0 (by omega); have w21 : (1 = n1) = False := e0 (by omega); have w22 : (1 = n1 + 1) = False := e0 (by omega); have w23 : (1 = n1 + 1 + 1) = False := e0 (by omega); have w24 : (1 = n1 + 1 + 1 + 1) = False := e0 (by omega); have w25 : (1 = n1 + 1 + 1 + 1 + 1) = False := e0 (by omega); have w26 : (1 = n1 + 1 + 1 + 1 + 1 + 1) = False := e0 (by omega); have w27 : (2 = 0) = False := e0 (by omega); have w28 : (2 = 1) = False := e0 (by omega); have w29 : (2 = 3) = False := e0 (by omega); have w30 : (2 = 5) = False := e0 (by omega); have w31 : (2 = 6) = False := e0 (by omega); have w32 : (2 = g1) = False := e0 (by omega); have w33 : (2 = g2) = False := e0 (by omega); have w34 : (2 = n1) = False := e0 (by omega); have w35 : (2 = n1 + 1) = False := e0 (by omega); have w36 : (2 = n1 + 1 + 1) = False := e0 (by omega); have w37 : (2 = n1 + 1 + 1 + 1) = False := e0 (by omega); have w38 : (2 = n1 + 1 + 1 + 1 + 1) = False := e0 (by omega); have w39 : (2 = n1 + 1 + 1 + 1 + 1 + 1) = False := e0 (by omega); have w40 : (3 = 0) = False := e0 (by omega); have w41 : (3 = 1) = False := e0 (by omega); have w42 : (3 = 2) = False := e0 (by omega); have w43 : (3 = 5) = False := e0 (by omega); have w44 : (3 = 6) = False := e0 (by omega); have w45 : (3 = g1) = False := e0 (by omega); have w46 : (3 = g2) = False := e0 (by omega); have w47 : (3 = n1) = False := e0 (by omega); have w48 : (3 = n1 + 1) = False := e0 (by omega); have w49 : (3 = n1 + 1 + 1) = False := e0 (by omega); have w50 : (3 = n1 + 1 + 1 + 1) = False := e0 (by omega); have w51 : (3 = n1 + 1 + 1 + 1 + 1) = False := e0 (by omega); have w52 : (3 = n1 + 1 + 1 + 1 + 1 + 1) = False := e0 (by omega); have w53 : (5 = 0) = False := e0 (by omega); have w54 : (5 = 1) = False := e0 (by omega); have w55 : (5 = 2) = False := e0 (by omega); have w56 : (5 = 3) = False := e0 (by omega); have w57 : (5 = 6) = False := e0 (by omega); have w58 : (5 = g1) = False := e0 (by omega); have w59 : (5 = g2) = False := e0 (by omega); have w60 : (5 = n1) = False := e0 (by omega); have w61 : (5 = n1 + 1) = False := e0 (by omega); have w62 : (5 = n1 + 1 + 1) = False := e0 (by omega); have w63 : (5 = n1 + 1 + 1 + 1) = False := e0 (by omega); have w64 : (5 = n1 + 1 + 1 + 1 + 1) = False := e0 (by omega); have w65 : (5 = n1 + 1 + 1 + 1 + 1 + 1) = False := e0 (by omega); have w66 : (6 = 0) = False := e0 (by omega); have w67 : (6 = 1) = False := e0 (by omega); have w68 : (6 = 2) = False := e0 (by omega); have w69 : (6 = 3) = False := e0 (by omega); have w70 : (6 = 5) = False := e0 (by omega); have w71 : (6 = g1) = False := e0 (by omega); have w72 : (6 = g2) = False := e0 (by omega); have w73 : (6 = n1) = False := e0 (by omega); have w74 : (6 = n1 + 1) = False := e0 (by omega); have w75 : (6 = n1 + 1 + 1) = False := e0 (by omega); have w76 : (6 = n1 + 1 + 1 + 1) = False := e0 (by omega); have w77 : (6 = n1 + 1 + 1 + 1 + 1) = False := e0 (by omega); have w78 : (6 = n1 + 1 + 1 + 1 + 1 + 1) = False := e0 (by omega); have w79 : (g1 = 0) = False := e0 (by omega); have w80 : (g1 = 1) = False := e0 (by omega); have w81 : (g1 = 2) = False := e0 (by omega); have w82 : (g1 = 3) = False := e0 (by omega); have w83 : (g1 = 5) = False := e0 (by omega); have w84 : (g1 = 6) = False := e0 (by omega); have w85 : (g1 = g2) = False := e0 (by omega); have w86 : (g1 = n1) = False := e0 (by omega); have w87 : (g1 = n1 + 1) = False := e0 (by omega); have w88 : (g1 = n1 + 1 + 1) = False := e0 (by omega); have w89 : (g1 = n1 + 1 + 1 + 1) = False := e0 (by omega); have w90 : (g1 = n1 + 1 + 1 + 1 + 1) = False := e0 (by omega); have w91 : (g1 = n1 + 1 + 1 + 1 + 1 + 1) = False := e0 (by omega); have w92 : (g2 = 0) = False := e0 (by omega); have w93 : (g2 = 1) = False := e0 (by omega); have w94 : (g2 = 2) = False := e0 (by omega); have w95 : (g2 = 3) = False := e0 (by omega); have w96 : (g2 = 5) = False := e0 (by omega); have w97 : (g2 = 6) = False := e0 (by omega); have w98 : (g2 = g1) = False := e0 (by omega); have w99 : (g2 = n1) = False := e0 (by omega); have w100 : (g2 = n1 + 1) = False := e0 (by omega); have w101 : (g2 = n1 + 1 + 1) = False := e0 (by omega); have w102 : (g2 = n1 + 1 + 1 + 1) = False := e0 (by omega); have w103 : (g2 = n1 + 1 + 1 + 1 + 1) = False := e0 (by omega); have w104 : (g2 = n1 + 1 + 1 + 1 + 1 + 1) = False := e0 (by omega); have w105 : (n1 = 0) = False := e0 (by omega); have w106 : (n1 = 1) = False := e0 (by omega); have w107 : (n1 = 2) = False := e0 (by omega); have w108 : (n1 = 3) = False := e0 (by omega); have w109 : (n1 = 5) = False := e0 (by omega); have w110 : (n1 = 6) = False := e0 (by omega); have w111 : (n1 = g1) = False := e0 (by omega); have w112 : (n1 = g2) = False := e0 (by omega); have w113 : (n1 = n1 + 1) = False := e0 (by omega); have w114 : (n1 = n1 + 1 + 1) = False := e0 (by omega); have w115 : (n1 = n1 + 1 + 1 + 1) = False := e0 (by omega); have w116 : (n1 = n1 + 1 + 1 + 1 + 1) = False := e0 (by omega); have w117 : (n1 = n1 + 1 + 1 + 1 + 1 + 1) = False := e0 (by omega); have w118 : (n1 + 1 = 0) = False := e0 (by omega); have w119 : (n1 + 1 = 1) = False := e0 (by omega); have w120 : (n1 + 1 = 2) = False := e0 (by omega); have w121 : (n1 + 1 = 3) = False := e0 (by omega); have w122 : (n1 + 1 = 5) = False := e0 (by omega); have w123 : (n1 + 1 = 6) = False := e0 (by omega); have w124 : (n1 + 1 = g1) = False := e0 (by omega); have w125 : (n1 + 1 = g2) = False := e0 (by omega); have w126 : (n1 + 1 = n1) = False := e0 (by omega); have w127 : (n1 + 1 = n1 + 1 + 1) = False := e0 (by omega); have w128 : (n1 + 1 = n1 + 1 + 1 + 1) = False := e0 (by omega); have w129 : (n1 + 1 = n1 + 1 + 1 + 1 + 1) = False := e0 (by omega); have w130 : (n1 + 1 = n1 + 1 + 1 + 1 + 1 + 1) = False := e0 (by omega); have w131 : (n1 + 1 + 1 = 0) = False := e0 (by omega); have w132 : (n1 + 1 + 1 = 1) = False := e0 (by omega); have w133 : (n1 + 1 + 1 = 2) = False := e0 (by omega); have w134 : (n1 + 1 + 1 = 3) = False := e0 (by omega); have w135 : (n1 + 1 + 1 = 5) = False := e0 (by omega); have w136 : (n1 + 1 + 1 = 6) = False := e0 (by omega); have w137 : (n1 + 1 + 1 = g1) = False := e0 (by omega); have w138 : (n1 + 1 + 1 = g2) = False := e0 (by omega); have w139 : (n1 + 1 + 1 = n1) = False := e0 (by omega); have w140 : (n1 + 1 + 1 = n1 + 1) = False := e0 (by omega); have w141 : (n1 + 1 + 1 = n1 + 1 + 1 + 1) = False := e0 (by omega); have w142 : (n1 + 1 + 1 = n1 + 1 + 1 + 1 + 1) = False := e0 (by omega); have w143 : (n1 + 1 + 1 = n1 + 1 + 1 + 1 + 1 + 1) = False := e0 (by omega); have w144 : (n1 + 1 + 1 + 1 = 0) = False := e0 (by omega); have w145 : (n1 + 1 + 1 + 1 = 1) = False := e0 (by omega); have w146 : (n1 + 1 + 1 + 1 = 2) = False := e0 (by omega); have w147 : (n1 + 1 + 1 + 1 = 3) = False := e0 (by omega); have w148 : (n1 + 1 + 1 + 1 = 5) = False := e0 (by omega); have w149 : (n1 + 1 + 1 + 1 = 6) = False := e0 (by omega); have w150 : (n1 + 1 + 1 + 1 = g1) = False := e0 (by omega); have w151 : (n1 + 1 + 1 + 1 = g2) = False := e0 (by omega); have w152 : (n1 + 1 + 1 + 1 = n1) = False := e0 (by omega); have w153 : (n1 + 1 + 1 + 1 = n1 + 1) = False := e0 (by omega); have w154 : (n1 + 1 + 1 + 1 = n1 + 1 + 1) = False := e0 (by omega); have w155 : (n1 + 1 + 1 + 1 = n1 + 1 + 1 + 1 + 1) = False := e0 (by omega); have w156 : (n1 + 1 + 1 + 1 = n1 + 1 + 1 + 1 + 1 + 1) = False := e0 (by omega); have w157 : (n1 + 1 + 1 + 1 + 1 = 0) = False := e0 (by omega); have w158 : (n1 + 1 + 1 + 1 + 1 = 1) = False := e0 (by omega); have w159 : (n1 + 1 + 1 + 1 + 1 = 2) = False := e0 (by omega); have w160 : (n1 + 1 + 1 + 1 + 1 = 3) = False := e0 (by omega); have w161 : (n1 + 1 + 1 + 1 + 1 = 5) = False := e0 (by omega); have w162 : (n1 + 1 + 1 + 1 + 1 = 6) = False := e0 (by omega); have w163 : (n1 + 1 + 1 + 1 + 1 = g1) = False := e0 (by omega); have w164 : (n1 + 1 + 1 + 1 + 1 = g2) = False := e0 (by omega); have w165 : (n1 + 1 + 1 + 1 + 1 = n1) = False := e0 (by omega); have w166 : (n1 + 1 + 1 + 1 + 1 = n1 + 1) = False := e0 (by omega); have w167 : (n1 + 1 + 1 + 1 + 1 = n1 + 1 + 1) = False := e0 (by omega); have w168 : (n1 + 1 + 1 + 1 + 1 = n1 + 1 + 1 + 1) = False := e0 (by omega); have w169 : (n1 + 1 + 1 + 1 + 1 = n1 + 1 + 1 + 1 + 1 + 1) = False := e0 (by omega); have w170 : (n1 + 1 + 1 + 1 + 1 + 1 = 0) = False := e0 (by omega); have w171 : (n1 + 1 + 1 + 1 + 1 + 1 = 1) = False := e0 (by omega); have w172 : (n1 + 1 + 1 + 1 + 1 + 1 = 2) = False := e0 (by omega); have w173 : (n1 + 1 + 1 + 1 + 1 + 1 = 3) = False := e0 (by omega); have w174 : (n1 + 1 + 1 + 1 + 1 + 1 = 5) = False := e0 (by omega); have w175 : (n1 + 1 + 1 + 1 + 1 + 1 = 6) = False := e0 (by omega); have w176 : (n1 + 1 + 1 + 1 + 1 + 1 = g1) = False := e0 (by omega); have w177 : (n1 + 1 + 1 + 1 + 1 + 1 = g2) = False := e0 (by omega); have w178 : (n1 + 1 + 1 + 1 + 1 + 1 = n1) = False := e0 (by omega); have w179 : (n1 + 1 + 1 + 1 + 1 + 1 = n1 + 1) = False := e0 (by omega); have w180 : (n1 + 1 + 1 + 1 + 1 + 1 = n1 + 1 + 1) = False := e0 (by omega); have w181 : (n1 + 1 + 1 + 1 + 1 + 1 = n1 + 1 + 1 + 1) = False := e0 (by omega); have w182 : (n1 + 1 + 1 + 1 + 1 + 1 = n1 + 1 + 1 + 1 + 1) = False := e0 (by omega)
        refine awp_plan ((.op 0 (.op 1 (.op 2 (.alt 3 (.alt 4 (.op 5 (.op 6 (.op 7 (.op 8 (.op 9 (.op 10 .done)))))) (.alt 5 (.alt 4 (.op 6 (.op 7 (.op 8 (.op 9 (.op 10 .done))))) (.alt 6 (.alt 4 (.op 7 (.op 8 (.op 9 (.op 10 .done)))) (.alt 7 (.op 4 (.op 8 (.op 9 (.op 10 .done)))) .dead)) .dead)) (.alt 6 (.alt 4 (.op 5 (.op 7 (.op 8 (.op 9 (.op 10 .done))))) (.alt 5 (.alt 4 (.op 7 (.op 8 (.op 9 (.op 10 .done)))) (.alt 7 (.op 4 (.op 8 (.op 9 (.op 10 .done)))) .dead)) (.alt 7 (.alt 4 (.op 5 (.op 8 (.op 9 (.op 10 .done)))) (.alt 5 (.op 4 (.op 8 (.op 9 (.op 10 .done)))) .dead)) .dead))) .dead))) (.alt 5 (.alt 3 (.alt 4 (.op 6 (.op 7 (.op 8 (.op 9 (.op 10 .done))))) (.alt 6 (.alt 4 (.op 7 (.op 8 (.op 9 (.op 10 .done)))) (.alt 7 (.op 4 (.op 8 (.op 9 (.op 10 .done)))) .dead)) .dead)) (.alt 6 (.alt 3 (.alt 4 (.op 7 (.op 8 (.op 9 (.op 10 .done)))) (.alt 7 (.op 4 (.op 8 (.op 9 (.op 10 .done)))) .dead)) (.alt 7 (.op 3 (.op 4 (.op 8 (.op 9 (.op 10 .done))))) .dead)) .dead)) (.alt 6 (.alt 3 (.alt 4 (.op 5 (.op 7 (.op 8 (.op 9 (.op 10 .done))))) (.alt 5 (.alt 4 (.op 7 (.op 8 (.op 9 (.op 10 .done)))) (.alt 7 (.op 4 (.op 8 (.op 9 (.op 10 .done)))) .dead)) (.alt 7 (.alt 4 (.op 5 (.op 8 (.op 9 (.op 10 .done)))) (.alt 5 (.op 4 (.op 8 (.op 9 (.op 10 .done)))) .dead)) .dead))) (.alt 5 (.alt 3 (.alt 4 (.op 7 (.op 8 (.op 9 (.op 10 .done)))) (.alt 7 (.op 4 (.op 8 (.op 9 (.op 10 .done)))) .dead)) (.alt 7 (.op 3 (.op 4 (.op 8 (.op 9 (.op 10 .done))))) .dead)) (.alt 7 (.alt 3 (.alt 4 (.op 5 (.op 8 (.op 9 (.op 10 .done)))) (.alt 5 (.op 4 (.op 8 (.op 9 (.op 10 .done)))) .dead)) (.alt 5 (.op 3 (.op 4 (.op 8 (.op 9 (.op 10 .done))))) .dead)) .dead))) .dead))))))) [4, 8, 9, 10] mix (by kernel_rfl) ?_
        simp only [go_sem, ↓reduceIte, reduceCtorEq, Nat.reduceEqDiff, Nat.reduceLT, Nat.reduceLeDiff, Nat.reduceAdd, Nat.reduceSub, Nat.reduceMul, Nat.reduceGT, Int.reduceNeg, Int.reduceToNat, F1, F2, hrec, hcell1, hcell2, a3, b3, w2, w3, w4, w5, w1, w2, w3, w4, w5, w6, w7, w8, w9, w10, w11, w12, w13, w14, w15, w16, w17, w18, w19, w20, w21, w22, w23, w24, w25, w26, w27, w28, w29, w30, w31, w32, w33, w34, w35, w36, w37, w38, w39, w40, w41, w42, w43, w44, w45, w46, w47, w48, w49, w50, w51, w52, w53, w54, w55, w56, w57, w58, w59, w60, w61, w62, w63, w64, w65, w66, w67, w68, w69, w70, w71, w72, w73, w74, w75, w76, w77, w78, w79, w80, w81, w82, w83, w84, w85, w86, w87, w88, w89, w90, w91, w92, w93, w94, w95, w96, w97, w98, w99, w100, w101, w102, w103, w104, w105, w106, w107, w108, w109, w110, w111, w112, w113, w114, w115, w116, w117, w118, w119, w120, w121, w122, w123, w124, w125, w126, w127, w128, w129, w130, w131, w132, w133, w134, w135, w136, w137, w138, w139, w140, w141, w142, w143, w144, w145, w146, w147, w148, w149, w150, w151, w152, w153, w154, w155, w156, w157, w158, w159, w160, w161, w162, w163, w164, w165, w166, w167, w168, w169, w170, w171, w172, w173, w174, w175, w176, w177, w178, w179, w180, w181, w182]
        rw [pushE_snoc, if_pos hlt]
        repeat' (first | (with_reducible refine And.intro ?_ ?_) | ((with_reducible refine ite_cases ?_ ?_) <;> intro _))
        all_goals first
          | omega
          | (refine keeps_set ?_; (repeat (refine (set_ne (by omega)).trans ?_)); exact hwn _ (by omega))
          | skip
        all_goals apply DaP.more (n := E'.length + 1)
        all_goals first
          | ((repeat (refine (set_ne (by omega)).trans ?_)); first | exact St_set_self _ _ _ _ | rfl | exact F1 | exact F2 | exact a3 | exact b3)
          | skip
        all_goals first
          | ((repeat (refine (set_ne (by omega)).trans ?_)); first | exact St_set_self _ _ _ _ | exact F1 | exact F2 | exact a3 | exact b3)
          | (simp only; omega)
          | omega
          | (exact fun j hj => ends_row _ j hj)
          | (first | exact a4 | exact b4 | rfl | (simp; done))
      · rename_i hlt
        refine ⟨⟨by omega, by omega⟩, by omega, ⟨by omega, by omega⟩, by omega, by omega, by omega, hJ0, ?_⟩
        rw [hnext, endsA_snoc, hE, pushE_snoc, if_neg hlt]
        all_goals apply DaL.put (n := E'.length)
        all_goals first
          | ((repeat (refine (set_ne (by omega)).trans ?_)); first | exact St_set_self _ _ _ _ | rfl | exact F1 | exact F2 | exact a3 | exact b3)
          | skip
        all_goals first
          | ((repeat (refine (set_ne (by omega)).trans ?_)); first | exact St_set_self _ _ _ _ | exact F1 | exact F2 | exact a3 | exact b3)
          | (simp only; omega)
          | omega
          | (exact fun j hj => ends_row _ j hj)
          | (first | exact a4 | exact b4 | exact hcell1 | exact hcell2 | rfl | (simp; done))
  · refine ⟨Nat.le_refl _, rfl, ⟨⟨.v (.slice none 0 0), rowOf [.v (.slice none 0 0)], rfl, rfl, fun _ => rfl, .inl ⟨rfl, rfl⟩⟩, ⟨.v (.slice none 0 0), rowOf [.v (.slice none 0 0)], rfl, rfl, fun _ => rfl, .inl ⟨rfl, rfl⟩⟩⟩, rfl⟩
  · rintro o' nx' ⟨hx, hJ0, hL, hrec⟩
    rw [hit, List.take_length] at hL
    refine .inl ⟨hrec, ?_⟩
    obtain ⟨d1, cell1, F1, hcell1, hn1, hO1⟩ := hL.day
    obtain ⟨d2, cell2, F2, hcell2, hn2, hO2⟩ := hL.ends
    simp only at hx F1 F2 hJ0
    simp only [conCells_eq] at hJ0
    simp only [go_sem, ↓reduceIte, reduceCtorEq, Nat.reduceEqDiff, Nat.reduceLT, Nat.reduceLeDiff, Nat.reduceAdd, Nat.reduceSub, Nat.reduceMul, Nat.reduceGT, Int.reduceNeg, Int.reduceToNat, F1, F2, hcell1, hcell2, hJ0]
    have hle : (Es.endsA items).length ≤ 12 := Nat.le_trans (endsA_len _) hitl
    have hst : ∀ y ∈ Es.endsA items, y.2.clauses.length ≤ 9223372036854775807 ∧ ∀ x ∈ y.2.clauses, x.start.length ≤ 9223372036854775807 := by
      intro y hy
      obtain ⟨z, hz, e⟩ := endsA_mem items y hy
      rw [← hit] at hz
      have hv := fits_valid (Es.versionsA_ok known _ _ z hz).1
      rw [e]
      exact ⟨hv.clauses, fun x hx => Nat.le_trans (starts_valid (Es.versionsA_ok known _ _ z hz).1 x hx) (by omega)⟩
    generalize hE : Es.endsA items = E at *
    have e0 : ∀ {a b : Nat}, a ≠ b → (a = b) = False := fun h => by simp [h]
    have hEE : E = [] ∨ E ≠ [] := by by_cases h : E = [] <;> simp [h]
    rcases hEE with rfl | hEn
    · have hd1 := hn1 rfl
      have hd2 := hn2 rfl
      subst hd1 hd2
      have z1 : (1 = 2) = False := e0 (by omega); have z2 : (1 = 6) = False := e0 (by omega); have z3 : (1 = nx') = False := e0 (by omega); have z4 : (2 = 1) = False := e0 (by omega); have z5 : (2 = 6) = False := e0 (by omega); have z6 : (2 = nx') = False := e0 (by omega); have z7 : (6 = 1) = False := e0 (by omega); have z8 : (6 = 2) = False := e0 (by omega); have z9 : (6 = nx') = False := e0 (by omega); have z10 : (nx' = 1) = False := e0 (by omega); have z11 : (nx' = 2) = False := e0 (by omega); have z12 : (nx' = 6) = False := e0 (by omega)
      simp only [go_sem, ↓reduceIte, reduceCtorEq, Nat.reduceEqDiff, Nat.reduceLT, Nat.reduceLeDiff, Nat.reduceAdd, Nat.reduceSub, Nat.reduceMul, Nat.reduceGT, Int.reduceNeg, Int.reduceToNat, F1, F2, hcell1, hcell2, z1, z2, z3, z4, z5, z6, z7, z8, z9, z10, z11, z12]
      refine awp_count0 0 (fun e0 s0 k e s => e = e0 ∧ s = s0) ⟨rfl, rfl⟩ ?_
      rintro k e s hkn ⟨rfl, rfl⟩
      simp only [go_sem, ↓reduceIte, reduceCtorEq, Nat.reduceEqDiff, Nat.reduceLT, Nat.reduceLeDiff, Nat.reduceAdd, Nat.reduceSub, Nat.reduceMul, Nat.reduceGT, Int.reduceNeg, Int.reduceToNat, F1, F2, hcell1, hcell2, z1, z2, z3, z4, z5, z6, z7, z8, z9, z10, z11, z12]
      refine Fz_tup ⟨.nil _ _, .v _, trivial⟩
    · rcases hO1 with ⟨h, _⟩ | ⟨g1, cl1, hd1, a1, a2, a3, a4⟩
      · simp at h; exact absurd h hEn
      rcases hO2 with ⟨h, _⟩ | ⟨g2, cl2, hd2, b1, b2, b3, b4⟩
      · simp at h; exact absurd h hEn
      rw [List.length_map] at hd1 a3 a4
      rw [List.length_map] at hd2 b3 b4
      subst hd1 hd2
      simp only at a2 a3 b2 b3
      have hg : g1 ≠ g2 := fun h => by rw [h, b3] at a3; simp at a3
      have z1 : (1 = 2) = False := e0 (by omega); have z2 : (1 = 6) = False := e0 (by omega); have z3 : (1 = g1) = False := e0 (by omega); have z4 : (1 = g2) = False := e0 (by omega); have z5 : (1 = nx') = False := e0 (by omega); have z6 : (2 = 1) = False := e0 (by omega); have z7 : (2 = 6) = False := e0 (by omega); have z8 : (2 = g1) = False := e0 (by omega); have z9 : (2 = g2) = False := e0 (by omega); have z10 : (2 = nx') = False := e0 (by omega); have z11 : (6 = 1) = False := e0 (by omega); have z12 : (6 = 2) = False := e0 (by omega); have z13 : (6 = g1) = False := e0 (by omega); have z14 : (6 = g2) = False := e0 (by omega); have z15 : (6 = nx') = False := e0 (by omega); have z16 : (g1 = 1) = False := e0 (by omega); have z17 : (g1 = 2) = False := e0 (by omega); have z18 : (g1 = 6) = False := e0 (by omega); have z19 : (g1 = g2) = False := e0 (by omega); have z20 : (g1 = nx') = False := e0 (by omega); have z21 : (g2 = 1) = False := e0 (by omega); have z22 : (g2 = 2) = False := e0 (by omega); have z23 : (g2 = 6) = False := e0 (by omega); have z24 : (g2 = g1) = False := e0 (by omega); have z25 : (g2 = nx') = False := e0 (by omega); have z26 : (nx' = 1) = False := e0 (by omega); have z27 : (nx' = 2) = False := e0 (by omega); have z28 : (nx' = 6) = False := e0 (by omega); have z29 : (nx' = g1) = False := e0 (by omega); have z30 : (nx' = g2) = False := e0 (by omega)
      simp only [go_sem, ↓reduceIte, reduceCtorEq, Nat.reduceEqDiff, Nat.reduceLT, Nat.reduceLeDiff, Nat.reduceAdd, Nat.reduceSub, Nat.reduceMul, Nat.reduceGT, Int.reduceNeg, Int.reduceToNat, F1, F2, hcell1, hcell2, z1, z2, z3, z4, z5, z6, z7, z8, z9, z10, z11, z12, z13, z14, z15, z16, z17, z18, z19, z20, z21, z22, z23, z24, z25, z26, z27, z28, z29, z30]
      refine awp_cells (f := g1) (k := 1) (n := E.length) (cell' := rowsOf intC (E.map (·.1))) (by simp only [go_sem, ↓reduceIte, reduceCtorEq, Nat.reduceEqDiff, Nat.reduceLT, Nat.reduceLeDiff, Nat.reduceAdd, Nat.reduceSub, Nat.reduceMul, Nat.reduceGT, Int.reduceNeg, Int.reduceToNat, a3, z1, z2, z3, z4, z5, z6, z7, z8, z9, z10, z11, z12, z13, z14, z15, z16, z17, z18, z19, z20, z21, z22, z23, z24, z25, z26, z27, z28, z29, z30]; rfl) (a4) ?_
      refine awp_cells (f := g2) (k := 7) (n := E.length) (cell' := rowsOf conC (E.map (·.2))) (by simp only [go_sem, ↓reduceIte, reduceCtorEq, Nat.reduceEqDiff, Nat.reduceLT, Nat.reduceLeDiff, Nat.reduceAdd, Nat.reduceSub, Nat.reduceMul, Nat.reduceGT, Int.reduceNeg, Int.reduceToNat, b3, hg.symm, z1, z2, z3, z4, z5, z6, z7, z8, z9, z10, z11, z12, z13, z14, z15, z16, z17, z18, z19, z20, z21, z22, z23, z24, z25, z26, z27, z28, z29, z30]; rfl) (b4) ?_
      refine awp_count0 E.length (fun e0 s0 k e st => (e 9 = e0 9 ∧ e 10 = e0 10 ∧ e 15 = e0 15 ∧ e 59 = e0 59 ∧ e 60 = e0 60) ∧ e 61 = .v (.int .i64 k) ∧ nx' + 1 ≤ st.nx ∧ st.o 1 0 = some (.blk 1 1 22 cell1) ∧
        st.o g1 0 = some (.blk 1 E.length 3 (rowsOf intC (E.map (·.1)))) ∧ st.o g2 0 = some (.blk 7 E.length 27 (rowsOf conC (E.map (·.2)))) ∧ st.o nx' 0 = some (.blk 7 1 27 (rowOf (conCells (lastE c (E.take k))))) ∧
        ∃ d, e 14 = d ∧ OutL intC 1 3 (nx' + 1) st d (Es.turnsA c (E.take k))) ⟨⟨rfl, rfl, rfl, rfl, rfl⟩, ?_, Nat.le_refl _, ?_, ?_, ?_, ?_, ?_⟩ ?_
      · simp only [go_sem, ↓reduceIte, reduceCtorEq, Nat.reduceEqDiff, Nat.reduceLT, Nat.reduceLeDiff, Nat.reduceAdd, Nat.reduceSub, Nat.reduceMul, Nat.reduceGT, Int.reduceNeg, Int.reduceToNat, Int.ofNat_zero]; first | done | rfl
      · simp only [go_sem, ↓reduceIte, reduceCtorEq, Nat.reduceEqDiff, Nat.reduceLT, Nat.reduceLeDiff, Nat.reduceAdd, Nat.reduceSub, Nat.reduceMul, Nat.reduceGT, Int.reduceNeg, Int.reduceToNat, F1, z1, z2, z3, z4, z5, z6, z7, z8, z9, z10, z11, z12, z13, z14, z15, z16, z17, z18, z19, z20, z21, z22, z23, z24, z25, z26, z27, z28, z29, z30]
      · simp only [go_sem, ↓reduceIte, reduceCtorEq, Nat.reduceEqDiff, Nat.reduceLT, Nat.reduceLeDiff, Nat.reduceAdd, Nat.reduceSub, Nat.reduceMul, Nat.reduceGT, Int.reduceNeg, Int.reduceToNat, hg, z1, z2, z3, z4, z5, z6, z7, z8, z9, z10, z11, z12, z13, z14, z15, z16, z17, z18, z19, z20, z21, z22, z23, z24, z25, z26, z27, z28, z29, z30]
      · simp only [go_sem, ↓reduceIte, reduceCtorEq, Nat.reduceEqDiff, Nat.reduceLT, Nat.reduceLeDiff, Nat.reduceAdd, Nat.reduceSub, Nat.reduceMul, Nat.reduceGT, Int.reduceNeg, Int.reduceToNat, z1, z2, z3, z4, z5, z6, z7, z8, z9, z10, z11, z12, z13, z14, z15, z16, z17, z18, z19, z20, z21, z22, z23, z24, z25, z26, z27, z28, z29, z30]
      · simp only [go_sem, ↓reduceIte, reduceCtorEq, Nat.reduceEqDiff, Nat.reduceLT, Nat.reduceLeDiff, Nat.reduceAdd, Nat.reduceSub, Nat.reduceMul, Nat.reduceGT, Int.reduceNeg, Int.reduceToNat, z1, z2, z3, z4, z5, z6, z7, z8, z9, z10, z11, z12, z13, z14, z15, z16, z17, z18, z19, z20, z21, z22, z23, z24, z25, z26, z27, z28, z29, z30, conCells_eq, List.take_zero, lastE, List.getLast?_nil, Option.map_none, Option.getD_none]
      · exact ⟨.v (.slice none 0 0), rfl, .inl ⟨rfl, rfl⟩⟩
      rintro k e ⟨o2, n2⟩ hkn ⟨⟨c9, c10, c15, c59, c60⟩, c61, hn2', i1, i2, i3, i4, d, c14, hO⟩
      simp only [go_sem, ↓reduceIte, reduceCtorEq, Nat.reduceEqDiff, Nat.reduceLT, Nat.reduceLeDiff, Nat.reduceAdd, Nat.reduceSub, Nat.reduceMul, Nat.reduceGT, Int.reduceNeg, Int.reduceToNat] at c9 c10 c15 c59 c60
      simp only at hn2' i1 i2 i3 i4
      simp only [conCells_eq] at i4
      have hw : IntKind.i64.wrap ((k : Int) + 1) = (k : Int) + 1 := wrap_i64 _ (by omega) (by omega)
      have w1 : (1 = g1) = False := e0 (by omega); have w2 : (1 = g2) = False := e0 (by omega); have w3 : (1 = nx') = False := e0 (by omega); have w4 : (1 = n2) = False := e0 (by omega); have w5 : (1 = n2 + 1) = False := e0 (by omega); have w6 : (1 = n2 + 1 + 1) = False := e0 (by omega); have w7 : (g1 = 1) = False := e0 (by omega); have w8 : (g1 = g2) = False := e0 (by omega); have w9 : (g1 = nx') = False := e0 (by omega); have w10 : (g1 = n2) = False := e0 (by omega); have w11 : (g1 = n2 + 1) = False := e0 (by omega); have w12 : (g1 = n2 + 1 + 1) = False := e0 (by omega); have w13 : (g2 = 1) = False := e0 (by omega); have w14 : (g2 = g1) = False := e0 (by omega); have w15 : (g2 = nx') = False := e0 (by omega); have w16 : (g2 = n2) = False := e0 (by omega); have w17 : (g2 = n2 + 1) = False := e0 (by omega); have w18 : (g2 = n2 + 1 + 1) = False := e0 (by omega); have w19 : (nx' = 1) = False := e0 (by omega); have w20 : (nx' = g1) = False := e0 (by omega); have w21 : (nx' = g2) = False := e0 (by omega); have w22 : (nx' = n2) = False := e0 (by omega); have w23 : (nx' = n2 + 1) = False := e0 (by omega); have w24 : (nx' = n2 + 1 + 1) = False := e0 (by omega); have w25 : (n2 = 1) = False := e0 (by omega); have w26 : (n2 = g1) = False := e0 (by omega); have w27 : (n2 = g2) = False := e0 (by omega); have w28 : (n2 = nx') = False := e0 (by omega); have w29 : (n2 = n2 + 1) = False := e0 (by omega); have w30 : (n2 = n2 + 1 + 1) = False := e0 (by omega); have w31 : (n2 + 1 = 1) = False := e0 (by omega); have w32 : (n2 + 1 = g1) = False := e0 (by omega); have w33 : (n2 + 1 = g2) = False := e0 (by omega); have w34 : (n2 + 1 = nx') = False := e0 (by omega); have w35 : (n2 + 1 = n2) = False := e0 (by omega); have w36 : (n2 + 1 = n2 + 1 + 1) = False := e0 (by omega); have w37 : (n2 + 1 + 1 = 1) = False := e0 (by omega); have w38 : (n2 + 1 + 1 = g1) = False := e0 (by omega); have w39 : (n2 + 1 + 1 = g2) = False := e0 (by omega); have w40 : (n2 + 1 + 1 = nx') = False := e0 (by omega); have w41 : (n2 + 1 + 1 = n2) = False := e0 (by omega); have w42 : (n2 + 1 + 1 = n2 + 1) = False := e0 (by omega)
      simp only [go_sem, ↓reduceIte, reduceCtorEq, Nat.reduceEqDiff, Nat.reduceLT, Nat.reduceLeDiff, Nat.reduceAdd, Nat.reduceSub, Nat.reduceMul, Nat.reduceGT, Int.reduceNeg, Int.reduceToNat, c9, c10, c15, c59, c60, c61, i1, i2, i3, i4, hw, hcell1, w1, w2, w3, w4, w5, w6, w7, w8, w9, w10, w11, w12, w13, w14, w15, w16, w17, w18, w19, w20, w21, w22, w23, w24, w25, w26, w27, w28, w29, w30, w31, w32, w33, w34, w35, w36, w37, w38, w39, w40, w41, w42]
      refine ite_cases (fun hlt => ?_) (fun hlt => ?_)
      · have hk0 : 0 + ((k : Int)).toNat = k := by omega
        have hk' : k < E.length := by omega
        obtain ⟨y, hy⟩ : ∃ y, E[k]? = some y := ⟨_, List.getElem?_eq_getElem hk'⟩
        have hym : y ∈ E := List.mem_of_getElem? hy
        have hy2 : Es.at_ (E.map fun x => x.2) (k : Int) = y.2 := by simp [Es.at_, List.getD_eq_getElem?_getD, hy]
        have hy1 : Es.at_ (E.map fun x => x.1) (k : Int) = y.1 := by simp [Es.at_, List.getD_eq_getElem?_getD, hy]
        have hnext : E.take (k + 1) = E.take k ++ [y] := by rw [List.take_add_one, hy]; rfl
        simp only [hk0, hy2]
        refine ⟨⟨by omega, by omega⟩, hk', ?_⟩
        refine call_at M_P M_G (vsame_spec y.2 (lastE c (E.take k)) (hst y hym).1 (hst y hym).2) ?_
        simp only [go_sem, ↓reduceIte, reduceCtorEq, Nat.reduceEqDiff, Nat.reduceLT, Nat.reduceLeDiff, Nat.reduceAdd, Nat.reduceSub, Nat.reduceMul, Nat.reduceGT, Int.reduceNeg, Int.reduceToNat, c9, c10, c15, c59, c60, c61, i1, i2, i3, i4, hw, hcell1, w1, w2, w3, w4, w5, w6, w7, w8, w9, w10, w11, w12, w13, w14, w15, w16, w17, w18, w19, w20, w21, w22, w23, w24, w25, w26, w27, w28, w29, w30, w31, w32, w33, w34, w35, w36, w37, w38, w39, w40, w41, w42]
        refine ite_cases (fun heq => ?_) (fun heq => ?_)
        · have hnx : Es.turnsA c (E.take (k + 1)) = Es.turnsA c (E.take k) ++ [y.1] := by
            rw [hnext, turnsA_snoc, if_neg (by simpa using heq)]
          have hli : (Es.turnsA c (E.take k)).length ≤ 12 := by
            have h1 := turnsA_len (E.take k) c
            have h2 : (E.take k).length ≤ E.length := by rw [List.length_take]; omega
            omega
          simp only [hk0, hy1, c14]
          refine ⟨⟨by omega, by omega⟩, hk', ?_⟩
          rcases hO with ⟨hnil, rfl⟩ | ⟨g, cl, rfl, hg1, hg2, hg3, hg4⟩
          · simp only [go_sem, ↓reduceIte, reduceCtorEq, Nat.reduceEqDiff, Nat.reduceLT, Nat.reduceLeDiff, Nat.reduceAdd, Nat.reduceSub, Nat.reduceMul, Nat.reduceGT, Int.reduceNeg, Int.reduceToNat, c9, c10, c15, c59, c60, c61, i1, i2, i3, i4, hw, hcell1, w1, w2, w3, w4, w5, w6, w7, w8, w9, w10, w11, w12, w13, w14, w15, w16, w17, w18, w19, w20, w21, w22, w23, w24, w25, w26, w27, w28, w29, w30, w31, w32, w33, w34, w35, w36, w37, w38, w39, w40, w41, w42]
            refine ⟨hk', ?_⟩
            simp only [go_sem, ↓reduceIte, reduceCtorEq, Nat.reduceEqDiff, Nat.reduceLT, Nat.reduceLeDiff, Nat.reduceAdd, Nat.reduceSub, Nat.reduceMul, Nat.reduceGT, Int.reduceNeg, Int.reduceToNat, c9, c10, c15, c59, c60, c61, i1, i2, i3, i4, hw, hcell1, w1, w2, w3, w4, w5, w6, w7, w8, w9, w10, w11, w12, w13, w14, w15, w16, w17, w18, w19, w20, w21, w22, w23, w24, w25, w26, w27, w28, w29, w30, w31, w32, w33, w34, w35, w36, w37, w38, w39, w40, w41, w42]
            refine ⟨by simp, by omega, by rw [hnext, lastE_snoc], _, rfl, ?_⟩
            rw [hnx, hnil]
            exact OutL.one (by omega) (by simp only; omega) ((set_ne (by omega)).trans (St_set_self _ _ _ _)) (one_row rfl)
          · simp only at hg2 hg3
            have v1 : (g = 1) = False := e0 (by omega); have v2 : (g = g1) = False := e0 (by omega); have v3 : (g = g2) = False := e0 (by omega); have v4 : (g = nx') = False := e0 (by omega); have v5 : (g = n2) = False := e0 (by omega); have v6 : (g = n2 + 1) = False := e0 (by omega); have v7 : (g = n2 + 1 + 1) = False := e0 (by omega); have v8 : (1 = g) = False := e0 (by omega); have v9 : (1 = g1) = False := e0 (by omega); have v10 : (1 = g2) = False := e0 (by omega); have v11 : (1 = nx') = False := e0 (by omega); have v12 : (1 = n2) = False := e0 (by omega); have v13 : (1 = n2 + 1) = False := e0 (by omega); have v14 : (1 = n2 + 1 + 1) = False := e0 (by omega); have v15 : (g1 = g) = False := e0 (by omega); have v16 : (g1 = 1) = False := e0 (by omega); have v17 : (g1 = g2) = False := e0 (by omega); have v18 : (g1 = nx') = False := e0 (by omega); have v19 : (g1 = n2) = False := e0 (by omega); have v20 : (g1 = n2 + 1) = False := e0 (by omega); have v21 : (g1 = n2 + 1 + 1) = False := e0 (by omega); have v22 : (g2 = g) = False := e0 (by omega); have v23 : (g2 = 1) = False := e0 (by omega); have v24 : (g2 = g1) = False := e0 (by omega); have v25 : (g2 = nx') = False := e0 (by omega); have v26 : (g2 = n2) = False := e0 (by omega); have v27 : (g2 = n2 + 1) = False := e0 (by omega); have v28 : (g2 = n2 + 1 + 1) = False := e0 (by omega); have v29 : (nx' = g) = False := e0 (by omega); have v30 : (nx' = 1) = False := e0 (by omega); have v31 : (nx' = g1) = False := e0 (by omega); have v32 : (nx' = g2) = False := e0 (by omega); have v33 : (nx' = n2) = False := e0 (by omega); have v34 : (nx' = n2 + 1) = False := e0 (by omega); have v35 : (nx' = n2 + 1 + 1) = False := e0 (by omega); have v36 : (n2 = g) = False := e0 (by omega); have v37 : (n2 = 1) = False := e0 (by omega); have v38 : (n2 = g1) = False := e0 (by omega); have v39 : (n2 = g2) = False := e0 (by omega); have v40 : (n2 = nx') = False := e0 (by omega); have v41 : (n2 = n2 + 1) = False := e0 (by omega); have v42 : (n2 = n2 + 1 + 1) = False := e0 (by omega); have v43 : (n2 + 1 = g) = False := e0 (by omega); have v44 : (n2 + 1 = 1) = False := e0 (by omega); have v45 : (n2 + 1 = g1) = False := e0 (by omega); have v46 : (n2 + 1 = g2) = False := e0 (by omega); have v47 : (n2 + 1 = nx') = False := e0 (by omega); have v48 : (n2 + 1 = n2) = False := e0 (by omega); have v49 : (n2 + 1 = n2 + 1 + 1) = False := e0 (by omega); have v50 : (n2 + 1 + 1 = g) = False := e0 (by omega); have v51 : (n2 + 1 + 1 = 1) = False := e0 (by omega); have v52 : (n2 + 1 + 1 = g1) = False := e0 (by omega); have v53 : (n2 + 1 + 1 = g2) = False := e0 (by omega); have v54 : (n2 + 1 + 1 = nx') = False := e0 (by omega); have v55 : (n2 + 1 + 1 = n2) = False := e0 (by omega); have v56 : (n2 + 1 + 1 = n2 + 1) = False := e0 (by omega)
            simp only [go_sem, ↓reduceIte, reduceCtorEq, Nat.reduceEqDiff, Nat.reduceLT, Nat.reduceLeDiff, Nat.reduceAdd, Nat.reduceSub, Nat.reduceMul, Nat.reduceGT, Int.reduceNeg, Int.reduceToNat, c9, c10, c15, c59, c60, c61, i1, i2, i3, i4, hw, hcell1, hg3, v1, v2, v3, v4, v5, v6, v7, v8, v9, v10, v11, v12, v13, v14, v15, v16, v17, v18, v19, v20, v21, v22, v23, v24, v25, v26, v27, v28, v29, v30, v31, v32, v33, v34, v35, v36, v37, v38, v39, v40, v41, v42, v43, v44, v45, v46, v47, v48, v49, v50, v51, v52, v53, v54, v55, v56]
            refine ⟨⟨by omega, by omega⟩, hk', ?_⟩
            simp only [go_sem, ↓reduceIte, reduceCtorEq, Nat.reduceEqDiff, Nat.reduceLT, Nat.reduceLeDiff, Nat.reduceAdd, Nat.reduceSub, Nat.reduceMul, Nat.reduceGT, Int.reduceNeg, Int.reduceToNat, c9, c10, c15, c59, c60, c61, i1, i2, i3, i4, hw, hcell1, hg3, v1, v2, v3, v4, v5, v6, v7, v8, v9, v10, v11, v12, v13, v14, v15, v16, v17, v18, v19, v20, v21, v22, v23, v24, v25, v26, v27, v28, v29, v30, v31, v32, v33, v34, v35, v36, v37, v38, v39, v40, v41, v42, v43, v44, v45, v46, v47, v48, v49, v50, v51, v52, v53, v54, v55, v56]
            refine ⟨by simp, by omega, by rw [hnext, lastE_snoc], _, rfl, ?_⟩
            rw [hnx]
            exact OutL.more (by omega) (by simp only; omega) ((set_ne (by omega)).trans (St_set_self _ _ _ _)) hg4 (one_row rfl)
        · have hnx : Es.turnsA c (E.take (k + 1)) = Es.turnsA c (E.take k) := by
            rw [hnext, turnsA_snoc, if_pos (by simpa using heq), List.append_nil]
          refine ⟨hk', ?_⟩
          simp only [go_sem, ↓reduceIte, reduceCtorEq, Nat.reduceEqDiff, Nat.reduceLT, Nat.reduceLeDiff, Nat.reduceAdd, Nat.reduceSub, Nat.reduceMul, Nat.reduceGT, Int.reduceNeg, Int.reduceToNat, c9, c10, c15, c59, c60, c61, i1, i2, i3, i4, hw, hcell1, c14, w1, w2, w3, w4, w5, w6, w7, w8, w9, w10, w11, w12, w13, w14, w15, w16, w17, w18, w19, w20, w21, w22, w23, w24, w25, w26, w27, w28, w29, w30]
          refine ⟨by simp, by omega, by rw [hnext, lastE_snoc], d, rfl, ?_⟩
          rw [hnx]
          exact hO.keep (by simp only; omega) fun g h1 h2 => (set_ne (by omega)).trans (set_ne (by simp only at h2; omega))
      · obtain rfl : k = E.length := by omega
        rw [List.take_length] at hO
        rw [c14]
        exact Fz_tup ⟨hO.fz (fun g h1 h2 => rfl) pu_intC, .v _, trivial⟩
  · exact fun o' nx' h => h.elim
end Tryd
end Go.Proofs
end
