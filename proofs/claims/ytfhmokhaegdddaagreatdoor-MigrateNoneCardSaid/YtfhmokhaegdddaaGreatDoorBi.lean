/-
  Parts of an abstract machine over the model, of the program's data and of what its functions compute: the texts F66, merged.
-/
import Derived.Test.YtfhmokhaegdddaaGreatDoorBh
set_option linter.unusedSimpArgs false
set_option linter.unusedVariables false
section
namespace Es
theorem foldl_snoc {α β : Type} (g : α → β) : ∀ (L : List α) (acc : List β), L.foldl (fun acc k => acc ++ [g k]) acc = acc ++ L.map g
  | [], acc => by simp
  | k :: L, acc => by rw [List.foldl_cons, foldl_snoc g L]; simp
theorem order_map (l : List Amend) : (orderA l).map (fun k => at_ l k) = sortedA l := by
  have h := order_fold (fun acc a => acc ++ [a]) [] l
  rw [foldl_snoc (fun k => at_ l k)] at h
  have h2 := foldl_snoc (fun a : Amend => a) (sortedA l) []
  rw [h2] at h
  simpa using h
def todoK (l : List Amend) (known : Int) (k : Nat) : List Amend := (((orderA l).take k).map fun k => at_ l k).filter fun a => decide (a.known ≤ known)
theorem stagesF_len : ∀ (tr : List Int) (c : Contract) (s : State) (l : List Amend), (stagesF c s l tr).length ≤ tr.length
  | [], _, _, _ => by simp [stagesF]
  | k :: tr, c, s, l => by
    rw [stagesF]
    split
    · simp
    · split
      · simpa using stagesF_len tr _ _ _
      · simpa using stagesF_len tr _ _ _
theorem stagesA_len (c : Contract) (l : List Amend) (tr : List Int) : (stagesA c l tr).length ≤ tr.length + 1 := by
  unfold stagesA
  rw [List.length_cons]
  split
  · have := stagesF_len tr (applyU 0 l c).1 (start (applyU 0 l c).1).1 (applyU 0 l c).2; omega
  · simp
theorem todoK_end (l : List Amend) (known : Int) : todoK l known (orderA l).length = todoA l known := by
  unfold todoK todoA; rw [List.take_length, order_map]
theorem todoK_len (l : List Amend) (known : Int) (k : Nat) : (todoK l known k).length ≤ l.length := by
  unfold todoK
  refine Nat.le_trans (List.length_filter_le _ _) ?_
  rw [List.length_map, List.length_take, orderA_len]
  omega
theorem todoK_yes {l : List Amend} {known : Int} {k : Nat} (hk : k < (orderA l).length) (h : (at_ l (at_ (orderA l) (k : Int))).known ≤ known) : todoK l known (k + 1) = todoK l known k ++ [at_ l (at_ (orderA l) (k : Int))] := by
  unfold todoK; rw [take_at hk, List.map_append, List.filter_append]; simp [h]
theorem todoK_no {l : List Amend} {known : Int} {k : Nat} (hk : k < (orderA l).length) (h : ¬ (at_ l (at_ (orderA l) (k : Int))).known ≤ known) : todoK l known (k + 1) = todoK l known k := by
  unfold todoK; rw [take_at hk, List.map_append, List.filter_append]; simp [h]
end Es
namespace Go.Proofs
open Go Go.Abs
set_option linter.unusedSimpArgs false
set_option linter.unusedVariables false
set_option maxRecDepth 10000
namespace Tryz
def resG (x : List Es.Contract × List Es.State × Int) : D := .tup [slD 7 conC x.1, slD 4 staC x.2.1, .v (.int .i64 x.2.2)]
@[go_sem] theorem resG_eq (x : List Es.Contract × List Es.State × Int) : resG x = .tup [slD 7 conC x.1, slD 4 staC x.2.1, .v (.int .i64 x.2.2)] := nr rfl
theorem stages_out {X : D → Value → Prop} {N b n0 : Nat} {r : Option Nat} {o o2 : St} {nx n2 : Nat} {ty : TypeId} {K : D → S → Prop} {d : D} {L : List Es.Amend} {c : Es.Contract} {tr : List Int} (hO : OutL amdC 22 ty n0 ⟨o2, n2⟩ d L) (hs : ∀ g, n0 ≤ g → g < n2 → o g 0 = o2 g 0)
    (hk : ∀ o1 : St, (∀ g i, g < n0 ∨ n2 ≤ g → o1 g i = o g i) → K (.fn (.func 60) [.mp (nx + 1) 0 1 0 0, .mp nx 0 7 0 0, .mp (nx + 1 + 1) 0 1 0 0])
      ⟨St.set (St.set (St.set o1 nx 0 (some (boxC c))) (nx + 1) 0 (some (.blk 1 1 70 (rowOf [slD 22 amdC L])))) (nx + 1 + 1) 0 (some (.blk 1 1 22 (rowOf [slD 1 intC tr]))), nx + 1 + 1 + 1⟩) :
    ACall { P := prog, G := gl, X := X, N := N, r := r, b := b } 41 [conD c, d, slD 1 intC tr] ⟨o, nx⟩ K := by
  rcases hO with ⟨rfl, rfl⟩ | ⟨g, cell, rfl, h2, h3, h4, h5⟩
  · refine acall_weak (args' := [conD c, slD 22 amdC [], slD 1 intC tr]) ⟨fun _ _ h => h, wk_nil _ _, fun _ _ h => h, trivial⟩ ?_
    exact stages_spec _ _ _ _ c [] tr _ _ _ (hk o fun _ _ _ => rfl)
  · simp only at h3 h4
    refine acall_freeze (f := g) (k := 22) (n := L.length) (cell' := rowsOf amdC L) (args' := [conD c, slD 22 amdC L, slD 1 intC tr]) ((hs g h2 h3).trans h4) h5 ⟨.inl rfl, .inr ⟨rfl, rfl⟩, .inl rfl, trivial⟩ ?_
    exact stages_spec _ _ _ _ c L tr _ _ _ (hk (St.set o g 0 none) fun g' i hg => by simp only [St.set]; rw [if_neg (by omega)])
/-- Two lists that grow together. -/
def TwoL (B fs : Nat) (L : List Es.Stg) (st : S) : Prop :=
  (L = [] ∧ (∃ cell, st.o B 0 = some (.blk 1 1 57 cell) ∧ cell 0 0 = .v (.slice none 0 0)) ∧ ∃ cell, st.o (B + 1) 0 = some (.blk 1 1 58 cell) ∧ cell 0 0 = .v (.slice none 0 0)) ∨
  ∃ g1 g2 c1 c2, g1 ≠ g2 ∧ (fs < g1 ∧ g1 < st.nx ∧ fs < g2 ∧ g2 < st.nx) ∧ (∃ cell, st.o B 0 = some (.blk 1 1 57 cell) ∧ cell 0 0 = .ms g1 0 7 0 L.length) ∧ (∃ cell, st.o (B + 1) 0 = some (.blk 1 1 58 cell) ∧ cell 0 0 = .ms g2 0 4 0 L.length) ∧
    (st.o g1 0 = some (.blk 7 L.length 27 c1) ∧ ∀ r c, r < L.length → c < 7 → c1 r c = rowsOf conC (L.map (·.con)) r c) ∧ (st.o g2 0 = some (.blk 4 L.length 38 c2) ∧ ∀ r c, r < L.length → c < 4 → c2 r c = rowsOf staC (L.map (·.st)) r c)
structure GoJ (B : Nat) (items : List Es.Stg) (i fs : Nat) (st : S) : Prop where
  nxt : B + 6 ≤ fs ∧ fs < st.nx
  two : TwoL B fs (items.take i) st
  r1 : ∃ cell, st.o 1 0 = some (.blk 1 1 57 cell)
  r2 : ∃ cell, st.o 2 0 = some (.blk 1 1 58 cell)
  r3 : ∃ cell, st.o 3 0 = some (.blk 1 1 43 cell)
  all : ∀ z ∈ items.take i, z.err = 0
theorem GoJ.same {B : Nat} {items : List Es.Stg} {i fs : Nat} {o o' : St} {nx nx' : Nat} (h : GoJ B items i fs ⟨o, nx⟩) (hB : 5 ≤ B) (hn : nx ≤ nx') (hs : ∀ f j, f < nx → f ≠ B + 3 → f ≠ B + 2 → f ≠ B + 5 → f ≠ fs → o' f j = o f j) : GoJ B items i fs ⟨o', nx'⟩ := by
  obtain ⟨h1, h2⟩ := h.nxt
  simp only at h1 h2
  have hr : ∀ f, f = 1 ∨ f = 2 ∨ f = 3 ∨ f = B ∨ f = B + 1 → o' f 0 = o f 0 := fun f hf => hs f 0 (by omega) (by omega) (by omega) (by omega) (by omega)
  refine ⟨⟨h1, by simp only; omega⟩, ?_, ?_, ?_, ?_, h.all⟩
  · rcases h.two with ⟨e1, ⟨c1, e2, e3⟩, ⟨c2, e4, e5⟩⟩ | ⟨g1, g2, c1, c2, hne, ⟨k1, k2, k3, k4⟩, ⟨q1, e2, e3⟩, ⟨q2, e4, e5⟩, ⟨e6, e7⟩, ⟨e8, e9⟩⟩
    · exact .inl ⟨e1, ⟨c1, (hr B (by omega)).trans e2, e3⟩, ⟨c2, (hr (B + 1) (by omega)).trans e4, e5⟩⟩
    · simp only at k2 k4
      exact .inr ⟨g1, g2, c1, c2, hne, ⟨k1, by simp only; omega, k3, by simp only; omega⟩, ⟨q1, (hr B (by omega)).trans e2, e3⟩, ⟨q2, (hr (B + 1) (by omega)).trans e4, e5⟩, ⟨(hs g1 0 (by omega) (by omega) (by omega) (by omega) (by omega)).trans e6, e7⟩, ⟨(hs g2 0 (by omega) (by omega) (by omega) (by omega) (by omega)).trans e8, e9⟩⟩
  · obtain ⟨c1, e1⟩ := h.r1; exact ⟨c1, (hr 1 (by omega)).trans e1⟩
  · obtain ⟨c1, e1⟩ := h.r2; exact ⟨c1, (hr 2 (by omega)).trans e1⟩
  · obtain ⟨c1, e1⟩ := h.r3; exact ⟨c1, (hr 3 (by omega)).trans e1⟩
/-- What holds behind a round. -/
structure Aft (B fs : Nat) (o3 : St) (n3 : Nat) (bz : SObj) (L : List Es.Stg) (st : S) : Prop where
  nxt : n3 ≤ st.nx
  r1 : st.o 1 0 = o3 1 0
  r2 : st.o 2 0 = o3 2 0
  r3 : st.o 3 0 = o3 3 0
  fc : st.o (B + 1 + 1) 0 = o3 (B + 1 + 1) 0
  fl : st.o (B + 1 + 1 + 1) 0 = o3 (B + 1 + 1 + 1) 0
  ft : st.o (B + 1 + 1 + 1 + 1) 0 = o3 (B + 1 + 1 + 1 + 1) 0
  hs : st.o fs 0 = o3 fs 0
  rcd : st.o (B + 1 + 1 + 1 + 1 + 1) 0 = some bz
  two : TwoL B fs L st
theorem con_lit (x : Es.Contract) : ∀ j, j < 7 → rowsFrom (litCell [.int .i64 0, .slice none 0 0, .slice none 0 0, .slice none 0 0, .slice none 0 0, .int .i64 0, .slice none 0 0] [(0, [.v (.int .i64 x.parties), slD 1 intC x.holders, slD 5 untC x.units, slD 7 actC x.acts, slD 16 clsC x.clauses, .v (.int .i64 x.days), slD 1 intC x.off])]) 0 0 j = conC x j := fun j hj => by
  rcases (show j = 0 ∨ j = 1 ∨ j = 2 ∨ j = 3 ∨ j = 4 ∨ j = 5 ∨ j = 6 by omega) with rfl | rfl | rfl | rfl | rfl | rfl | rfl <;> rfl
theorem sta_lit (x : Es.State) : ∀ j, j < 4 → rowsFrom (litCell [.int .i64 0, .slice none 0 0, .slice none 0 0, .slice none 0 0] [(0, [.v (.int .i64 x.day), slD 1 intC x.holders, slD 1 booC x.used, slD 5 mrkC x.marks])]) 0 0 j = staC x j := fun j hj => by
  rcases (show j = 0 ∨ j = 1 ∨ j = 2 ∨ j = 3 by omega) with rfl | rfl | rfl | rfl <;> rfl
theorem Aft.one {B fs n3 : Nat} {o3 : St} {bz : SObj} {z : Es.Stg} {st : S} {g1 g2 : Nat} {ca cb cl1 sr1 cl2 sr2 : Nat → Nat → D} (hn : n3 ≤ st.nx) (h0 : st.o 1 0 = o3 1 0) (h3 : st.o 2 0 = o3 2 0) (h5 : st.o 3 0 = o3 3 0) (h6 : st.o (B + 1 + 1) 0 = o3 (B + 1 + 1) 0) (h7 : st.o (B + 1 + 1 + 1) 0 = o3 (B + 1 + 1 + 1) 0) (h8 : st.o (B + 1 + 1 + 1 + 1) 0 = o3 (B + 1 + 1 + 1 + 1) 0) (h9 : st.o fs 0 = o3 fs 0) (hr : st.o (B + 1 + 1 + 1 + 1 + 1) 0 = some bz)
    (h1 : st.o B 0 = some (.blk 1 1 57 (setC ca 0 0 [.ms g1 0 7 0 1]))) (k1 : st.o g1 0 = some (.blk 7 1 27 (appC cl1 0 sr1))) (h2 : st.o (B + 1) 0 = some (.blk 1 1 58 (setC cb 0 0 [.ms g2 0 4 0 1]))) (k2 : st.o g2 0 = some (.blk 4 1 38 (appC cl2 0 sr2)))
    (s1 : ∀ j, j < 7 → sr1 0 j = conC z.con j) (s2 : ∀ j, j < 4 → sr2 0 j = staC z.st j) (bne : g1 ≠ g2) (b1 : fs < g1) (b2 : g1 < st.nx) (b3 : fs < g2) (b4 : g2 < st.nx) : Aft B fs o3 n3 bz [z] st :=
  ⟨hn, h0, h3, h5, h6, h7, h8, h9, hr, .inr ⟨g1, g2, _, _, bne, ⟨b1, b2, b3, b4⟩, ⟨_, h1, rfl⟩, ⟨_, h2, rfl⟩, ⟨k1, app_rows (l := []) (fun _ _ h => by simp at h) s1⟩, ⟨k2, app_rows (l := []) (fun _ _ h => by simp at h) s2⟩⟩⟩
theorem Aft.more {B fs n3 : Nat} {o3 : St} {bz : SObj} {L : List Es.Stg} {z : Es.Stg} {st : S} {g1 g2 n : Nat} {ca cb cl1 sr1 cl2 sr2 : Nat → Nat → D} (hE : L.length = n) (c1 : ∀ r c, r < L.length → c < 7 → cl1 r c = rowsOf conC (L.map (·.con)) r c) (c2 : ∀ r c, r < L.length → c < 4 → cl2 r c = rowsOf staC (L.map (·.st)) r c)
    (hn : n3 ≤ st.nx) (h0 : st.o 1 0 = o3 1 0) (h3 : st.o 2 0 = o3 2 0) (h5 : st.o 3 0 = o3 3 0) (h6 : st.o (B + 1 + 1) 0 = o3 (B + 1 + 1) 0) (h7 : st.o (B + 1 + 1 + 1) 0 = o3 (B + 1 + 1 + 1) 0) (h8 : st.o (B + 1 + 1 + 1 + 1) 0 = o3 (B + 1 + 1 + 1 + 1) 0) (h9 : st.o fs 0 = o3 fs 0) (hr : st.o (B + 1 + 1 + 1 + 1 + 1) 0 = some bz)
    (h1 : st.o B 0 = some (.blk 1 1 57 (setC ca 0 0 [.ms g1 0 7 0 (n + 1)]))) (k1 : st.o g1 0 = some (.blk 7 (n + 1) 27 (appC cl1 n sr1))) (h2 : st.o (B + 1) 0 = some (.blk 1 1 58 (setC cb 0 0 [.ms g2 0 4 0 (n + 1)]))) (k2 : st.o g2 0 = some (.blk 4 (n + 1) 38 (appC cl2 n sr2)))
    (s1 : ∀ j, j < 7 → sr1 0 j = conC z.con j) (s2 : ∀ j, j < 4 → sr2 0 j = staC z.st j) (bne : g1 ≠ g2) (b1 : fs < g1) (b2 : g1 < st.nx) (b3 : fs < g2) (b4 : g2 < st.nx) : Aft B fs o3 n3 bz (L ++ [z]) st := by
  subst hE
  have e1 : (L.map (·.con)).length = L.length := by simp
  have e2 : (L.map (·.st)).length = L.length := by simp
  refine ⟨hn, h0, h3, h5, h6, h7, h8, h9, hr, .inr ⟨g1, g2, appC cl1 L.length sr1, appC cl2 L.length sr2, bne, ⟨b1, b2, b3, b4⟩, ⟨_, h1, by simp [setC]⟩, ⟨_, h2, by simp [setC]⟩, ⟨by rw [List.length_append]; exact k1, ?_⟩, ⟨by rw [List.length_append]; exact k2, ?_⟩⟩⟩
  · intro r c hr hc
    have := app_rows (l := L.map (·.con)) (x := z.con) (by rw [e1]; exact c1) s1 r c (by rw [e1]; simpa using hr) hc
    rw [e1] at this
    rw [this, List.map_append]; rfl
  · intro r c hr hc
    have := app_rows (l := L.map (·.st)) (x := z.st) (by rw [e2]; exact c2) s2 r c (by rw [e2]; simpa using hr) hc
    rw [e2] at this
    rw [this, List.map_append]; rfl
structure Bad (B fs : Nat) (o3 : St) (n3 : Nat) (bz : SObj) (err : Int) (st : S) : Prop where
  nxt : n3 ≤ st.nx
  fc : st.o (B + 1 + 1) 0 = o3 (B + 1 + 1) 0
  fl : st.o (B + 1 + 1 + 1) 0 = o3 (B + 1 + 1 + 1) 0
  ft : st.o (B + 1 + 1 + 1 + 1) 0 = o3 (B + 1 + 1 + 1 + 1) 0
  hs : st.o fs 0 = o3 fs 0
  rcd : st.o (B + 1 + 1 + 1 + 1 + 1) 0 = some bz
  r1 : ∃ cell, st.o 1 0 = some (.blk 1 1 57 cell) ∧ cell 0 0 = .v (.slice none 0 0)
  r2 : ∃ cell, st.o 2 0 = some (.blk 1 1 58 cell) ∧ cell 0 0 = .v (.slice none 0 0)
  r3 : ∃ cell, st.o 3 0 = some (.blk 1 1 43 cell) ∧ cell 0 0 = .v (.int .i64 err)
theorem Bad.of {B fs n3 : Nat} {o3 : St} {bz : SObj} {err : Int} {st : S} {ca cb cc : Nat → Nat → D} (hn : n3 ≤ st.nx) (h6 : st.o (B + 1 + 1) 0 = o3 (B + 1 + 1) 0) (h7 : st.o (B + 1 + 1 + 1) 0 = o3 (B + 1 + 1 + 1) 0) (h8 : st.o (B + 1 + 1 + 1 + 1) 0 = o3 (B + 1 + 1 + 1 + 1) 0) (h9 : st.o fs 0 = o3 fs 0) (hr : st.o (B + 1 + 1 + 1 + 1 + 1) 0 = some bz)
    (h1 : st.o 1 0 = some (.blk 1 1 57 (setC ca 0 0 [.v (.slice none 0 0)]))) (h2 : st.o 2 0 = some (.blk 1 1 58 (setC cb 0 0 [.v (.slice none 0 0)]))) (h3 : st.o 3 0 = some (.blk 1 1 43 (setC cc 0 0 [.v (.int .i64 err)]))) : Bad B fs o3 n3 bz err st :=
  ⟨hn, h6, h7, h8, h9, hr, ⟨_, h1, rfl⟩, ⟨_, h2, rfl⟩, ⟨_, h3, rfl⟩⟩
theorem put_ne {s : S} {f i f' i' : Nat} {B : SObj} (h : f' ≠ f) : (s.put f i B).o f' i' = s.o f' i' := set_ne h
theorem put_self {s : S} {f i : Nat} {B : SObj} : (s.put f i B).o f i = some B := St_set_self _ _ _ _
theorem find_at {items : List Es.Stg} {i : Nat} {z : Es.Stg} (hz : items[i]? = some z) (hall : ∀ z ∈ items.take i, z.err = 0) (he : z.err ≠ 0) : items.find? (fun z => z.err != 0) = some z := by
  obtain ⟨h1, h2⟩ := List.getElem?_eq_some_iff.1 hz
  rw [← List.take_append_drop i items, List.find?_append]
  rw [List.find?_eq_none.2 (fun x hx => by simp [hall x hx]), List.drop_eq_getElem_cons h1, List.find?_cons_of_pos (by rw [h2]; simpa using he), h2]
  rfl
set_option maxHeartbeats 16000000 in
theorem run_spec (c : Es.Contract) (l : List Es.Amend) (known : Int) (tr : List Int) (hf : Es.Fits c) (hl : l.length ≤ 12) (htr : tr.length ≤ 1000000000) : APure M 19 [conD c, slD 22 amdC l, .v (.int .i64 known), slD 1 intC tr] (resG (Es.runG c l known tr)) := by
  refine pure_of gpu func19 rfl results19 ntmps19 (by simp) ⟨pu_conD _, pu_slD pu_amdC _, .v _, pu_slD pu_intC _, trivial⟩ ?_
  intro b
  simp only [go_sem, ↓reduceIte, reduceCtorEq, Nat.reduceEqDiff, Nat.reduceLT, Nat.reduceLeDiff, Nat.reduceAdd, Nat.reduceSub, Nat.reduceMul, Nat.reduceGT, Int.reduceNeg, Int.reduceToNat]
  repeat' (first | ((with_reducible refine call_at M_P M_G (start_spec c hf) ?_); simp only [go_sem, ↓reduceIte, reduceCtorEq, Nat.reduceEqDiff, Nat.reduceLT, Nat.reduceLeDiff, Nat.reduceAdd, Nat.reduceSub, Nat.reduceMul, Nat.reduceGT, Int.reduceNeg, Int.reduceToNat]) | (with_reducible refine And.intro ?_ ?_) | ((with_reducible refine ite_cases ?_ ?_) <;> intro _))
  all_goals try (refine call_at M_P M_G (order_spec' l hl) ?_; simp only [go_sem, ↓reduceIte, reduceCtorEq, Nat.reduceEqDiff, Nat.reduceLT, Nat.reduceLeDiff, Nat.reduceAdd, Nat.reduceSub, Nat.reduceMul, Nat.reduceGT, Int.reduceNeg, Int.reduceToNat])
  all_goals first
    | (rw [show Es.runG c l known tr = ([], [], (Es.start c).2) by unfold Es.runG; rw [if_pos (by simp_all)]]; exact Fz_tup ⟨.nil _ _, .nil _ _, .v _, trivial⟩)
    | (rw [show Es.runG c l known tr = ([], [], 3) by unfold Es.runG; rw [if_neg (by simp_all), if_pos (by simp_all)]]; exact Fz_tup ⟨.nil _ _, .nil _ _, .v _, trivial⟩)
    | skip
  have hst0 : (Es.start c).2 = 0 := by simp_all
  have hR : Es.runG c l known tr = match (Es.stagesA c (Es.todoA l known) tr).find? (fun z => z.err != 0) with
    | some z => ([], [], z.err)
    | none => ((Es.stagesA c (Es.todoA l known) tr).map (·.con), (Es.stagesA c (Es.todoA l known) tr).map (·.st), 0) := by
    unfold Es.runG; rw [if_neg (by simp_all), if_neg (by simp_all)]; rfl
  have hol := Es.orderA_len l
  refine awp_count0 (Es.orderA l).length (fun e0 s0 k e st => (e 1 = e0 1 ∧ e 2 = e0 2 ∧ e 3 = e0 3 ∧ e 4 = e0 4 ∧ e 8 = e0 8 ∧ e 9 = e0 9 ∧ e 10 = e0 10 ∧ e 36 = e0 36 ∧ e 37 = e0 37) ∧ e 38 = .v (.int .i64 k) ∧ 5 ≤ st.nx ∧ (∀ f j, f < 5 → st.o f j = s0.o f j) ∧ OutL amdC 22 69 5 st (e 13) (Es.todoK l known k)) ⟨⟨rfl, rfl, rfl, rfl, rfl, rfl, rfl, rfl, rfl⟩, ?_, Nat.le_refl _, fun _ _ _ => rfl, ?_⟩ ?_
  · simp only [go_sem, ↓reduceIte, reduceCtorEq, Nat.reduceEqDiff, Nat.reduceLT, Nat.reduceLeDiff, Nat.reduceAdd, Nat.reduceSub, Nat.reduceMul, Nat.reduceGT, Int.reduceNeg, Int.reduceToNat]; rfl
  · simp only [go_sem, ↓reduceIte, reduceCtorEq, Nat.reduceEqDiff, Nat.reduceLT, Nat.reduceLeDiff, Nat.reduceAdd, Nat.reduceSub, Nat.reduceMul, Nat.reduceGT, Int.reduceNeg, Int.reduceToNat]; exact OutL.nil
  rintro k e ⟨o1, n1⟩ hk ⟨⟨a1, a2, a3, a4, a8, a9, a10, a36, a37⟩, a38, hn1, hold, hO⟩
  simp only [go_sem, ↓reduceIte, reduceCtorEq, Nat.reduceEqDiff, Nat.reduceLT, Nat.reduceLeDiff, Nat.reduceAdd, Nat.reduceSub, Nat.reduceMul, Nat.reduceGT, Int.reduceNeg, Int.reduceToNat] at a1 a2 a3 a4 a8 a9 a10 a36 a37
  simp only at hn1 hold
  have g0 := hold 0 0 (by omega)
  have g1 := hold 1 0 (by omega)
  have g2 := hold 2 0 (by omega)
  have g3 := hold 3 0 (by omega)
  simp only [go_sem, ↓reduceIte, reduceCtorEq, Nat.reduceEqDiff, Nat.reduceLT, Nat.reduceLeDiff, Nat.reduceAdd, Nat.reduceSub, Nat.reduceMul, Nat.reduceGT, Int.reduceNeg, Int.reduceToNat] at g0 g1 g2 g3
  have hw : IntKind.i64.wrap ((k : Int) + 1) = ((k + 1 : Nat) : Int) := by rw [wrap_i64 _ (by omega) (by omega)]; simp
  have e0 : ∀ {a b : Nat}, a ≠ b → (a = b) = False := fun h => by simp [h]
  simp only [go_sem, ↓reduceIte, reduceCtorEq, Nat.reduceEqDiff, Nat.reduceLT, Nat.reduceLeDiff, Nat.reduceAdd, Nat.reduceSub, Nat.reduceMul, Nat.reduceGT, Int.reduceNeg, Int.reduceToNat, a1, a2, a3, a4, a8, a9, a10, a36, a37, a38]
  refine ite_cases (fun hlt => ?_) (fun hlt => ?_)
  · have hlt' : k < (Es.orderA l).length := Es.len_lt.1 hlt
    have hrg := Es.orderA_range (Es.at_mem hlt')
    refine ⟨⟨by omega, hlt⟩, ⟨hrg.1, hrg.2⟩, ?_⟩
    refine ite_cases (fun hkn => ?_) (fun hkn => ?_)
    · have hlk := Es.todoK_len l known k
      generalize hd : e 13 = d at hO
      rcases hO with ⟨hnil, rfl⟩ | ⟨g, cell, rfl, hg1, hg2, hg3, hg4⟩
      · simp only [go_sem, ↓reduceIte, reduceCtorEq, Nat.reduceEqDiff, Nat.reduceLT, Nat.reduceLeDiff, Nat.reduceAdd, Nat.reduceSub, Nat.reduceMul, Nat.reduceGT, Int.reduceNeg, Int.reduceToNat, a1, a2, a3, a4, a8, a9, a10, a36, a37, a38, hd]
        refine ⟨⟨hrg.1, hrg.2⟩, hlt', ?_⟩
        simp only [go_sem, ↓reduceIte, reduceCtorEq, Nat.reduceEqDiff, Nat.reduceLT, Nat.reduceLeDiff, Nat.reduceAdd, Nat.reduceSub, Nat.reduceMul, Nat.reduceGT, Int.reduceNeg, Int.reduceToNat, a1, a2, a3, a4, a8, a9, a10, a36, a37, a38, hd, hw]
        refine ⟨by omega, fun f j h1 => ?_, ?_⟩
        · (repeat rw [if_neg (by omega)]); exact hold f j h1
        · rw [Es.todoK_yes hlt' hkn, hnil]
          exact OutL.one' (by omega) fun j hj => by rcases (show j = 0 ∨ j = 1 ∨ j = 2 ∨ j = 3 ∨ j = 4 ∨ j = 5 ∨ j = 6 ∨ j = 7 ∨ j = 8 ∨ j = 9 ∨ j = 10 ∨ j = 11 ∨ j = 12 ∨ j = 13 ∨ j = 14 ∨ j = 15 ∨ j = 16 ∨ j = 17 ∨ j = 18 ∨ j = 19 ∨ j = 20 ∨ j = 21 by omega) with rfl | rfl | rfl | rfl | rfl | rfl | rfl | rfl | rfl | rfl | rfl | rfl | rfl | rfl | rfl | rfl | rfl | rfl | rfl | rfl | rfl | rfl <;> rfl
      · simp only at hg2 hg3
        have z1 : (g = n1) = False := e0 (by omega); have z2 : (g = n1 + 1) = False := e0 (by omega); have z3 : (g = n1 + 1 + 1) = False := e0 (by omega); have z4 : (n1 = g) = False := e0 (by omega); have z5 : (n1 = n1 + 1) = False := e0 (by omega); have z6 : (n1 = n1 + 1 + 1) = False := e0 (by omega); have z7 : (n1 + 1 = g) = False := e0 (by omega); have z8 : (n1 + 1 = n1) = False := e0 (by omega); have z9 : (n1 + 1 = n1 + 1 + 1) = False := e0 (by omega); have z10 : (n1 + 1 + 1 = g) = False := e0 (by omega); have z11 : (n1 + 1 + 1 = n1) = False := e0 (by omega); have z12 : (n1 + 1 + 1 = n1 + 1) = False := e0 (by omega)
        simp only [go_sem, ↓reduceIte, reduceCtorEq, Nat.reduceEqDiff, Nat.reduceLT, Nat.reduceLeDiff, Nat.reduceAdd, Nat.reduceSub, Nat.reduceMul, Nat.reduceGT, Int.reduceNeg, Int.reduceToNat, a1, a2, a3, a4, a8, a9, a10, a36, a37, a38, hd, hg3, z1, z2, z3, z4, z5, z6, z7, z8, z9, z10, z11, z12]
        refine ⟨⟨hrg.1, hrg.2⟩, ⟨by omega, by omega⟩, hlt', ?_⟩
        simp only [go_sem, ↓reduceIte, reduceCtorEq, Nat.reduceEqDiff, Nat.reduceLT, Nat.reduceLeDiff, Nat.reduceAdd, Nat.reduceSub, Nat.reduceMul, Nat.reduceGT, Int.reduceNeg, Int.reduceToNat, a1, a2, a3, a4, a8, a9, a10, a36, a37, a38, hd, hw]
        refine ⟨by omega, fun f j h1 => ?_, ?_⟩
        · (repeat rw [if_neg (by omega)]); exact hold f j h1
        · rw [Es.todoK_yes hlt' hkn]
          exact OutL.more' (by omega) hg4 fun j hj => by rcases (show j = 0 ∨ j = 1 ∨ j = 2 ∨ j = 3 ∨ j = 4 ∨ j = 5 ∨ j = 6 ∨ j = 7 ∨ j = 8 ∨ j = 9 ∨ j = 10 ∨ j = 11 ∨ j = 12 ∨ j = 13 ∨ j = 14 ∨ j = 15 ∨ j = 16 ∨ j = 17 ∨ j = 18 ∨ j = 19 ∨ j = 20 ∨ j = 21 by omega) with rfl | rfl | rfl | rfl | rfl | rfl | rfl | rfl | rfl | rfl | rfl | rfl | rfl | rfl | rfl | rfl | rfl | rfl | rfl | rfl | rfl | rfl <;> rfl
    · refine ⟨hlt', ?_⟩
      simp only [go_sem, ↓reduceIte, reduceCtorEq, Nat.reduceEqDiff, Nat.reduceLT, Nat.reduceLeDiff, Nat.reduceAdd, Nat.reduceSub, Nat.reduceMul, Nat.reduceGT, Int.reduceNeg, Int.reduceToNat, a1, a2, a3, a4, a8, a9, a10, a36, a37, a38, hw]
      rw [Es.todoK_no hlt' hkn]
      exact ⟨hn1, hold, hO⟩
  · have hkk : k = (Es.orderA l).length := by simp only [Es.len] at hlt; omega
    subst hkk
    rw [Es.todoK_end] at hO
    have z1 : (0 = 1) = False := e0 (by omega); have z2 : (0 = 2) = False := e0 (by omega); have z3 : (0 = 3) = False := e0 (by omega); have z4 : (0 = n1) = False := e0 (by omega); have z5 : (0 = n1 + 1) = False := e0 (by omega); have z6 : (1 = 0) = False := e0 (by omega); have z7 : (1 = 2) = False := e0 (by omega); have z8 : (1 = 3) = False := e0 (by omega); have z9 : (1 = n1) = False := e0 (by omega); have z10 : (1 = n1 + 1) = False := e0 (by omega); have z11 : (2 = 0) = False := e0 (by omega); have z12 : (2 = 1) = False := e0 (by omega); have z13 : (2 = 3) = False := e0 (by omega); have z14 : (2 = n1) = False := e0 (by omega); have z15 : (2 = n1 + 1) = False := e0 (by omega); have z16 : (3 = 0) = False := e0 (by omega); have z17 : (3 = 1) = False := e0 (by omega); have z18 : (3 = 2) = False := e0 (by omega); have z19 : (3 = n1) = False := e0 (by omega); have z20 : (3 = n1 + 1) = False := e0 (by omega); have z21 : (n1 = 0) = False := e0 (by omega); have z22 : (n1 = 1) = False := e0 (by omega); have z23 : (n1 = 2) = False := e0 (by omega); have z24 : (n1 = 3) = False := e0 (by omega); have z25 : (n1 = n1 + 1) = False := e0 (by omega); have z26 : (n1 + 1 = 0) = False := e0 (by omega); have z27 : (n1 + 1 = 1) = False := e0 (by omega); have z28 : (n1 + 1 = 2) = False := e0 (by omega); have z29 : (n1 + 1 = 3) = False := e0 (by omega); have z30 : (n1 + 1 = n1) = False := e0 (by omega)
    simp only [go_sem, ↓reduceIte, reduceCtorEq, Nat.reduceEqDiff, Nat.reduceLT, Nat.reduceLeDiff, Nat.reduceAdd, Nat.reduceSub, Nat.reduceMul, Nat.reduceGT, Int.reduceNeg, Int.reduceToNat, a1, a2, a3, a4, a8, a9, a10, a36, a37, a38, g0, g1, g2, g3, z1, z2, z3, z4, z5, z6, z7, z8, z9, z10, z11, z12, z13, z14, z15, z16, z17, z18, z19, z20, z21, z22, z23, z24, z25, z26, z27, z28, z29, z30]
    refine stages_out hO (fun g h1 h2 => by (repeat (refine (set_ne (by omega)).trans ?_)); rfl) fun o2 hold2 => ?_
    have t0 := hold2 0 0 (by omega)
    have t1 := hold2 1 0 (by omega)
    have t2 := hold2 2 0 (by omega)
    have t3 := hold2 3 0 (by omega)
    have t4 := hold2 n1 0 (by omega)
    have t5 := hold2 (n1 + 1) 0 (by omega)
    simp only [go_sem, ↓reduceIte, reduceCtorEq, Nat.reduceEqDiff, Nat.reduceLT, Nat.reduceLeDiff, Nat.reduceAdd, Nat.reduceSub, Nat.reduceMul, Nat.reduceGT, Int.reduceNeg, Int.reduceToNat, g0, g1, g2, g3, z1, z2, z3, z4, z5, z6, z7, z8, z9, z10, z11, z12, z13, z14, z15, z16, z17, z18, z19, z20, z21, z22, z23, z24, z25, z26, z27, z28, z29, z30] at t0 t1 t2 t3 t4 t5
    simp only [go_sem, ↓reduceIte, reduceCtorEq, Nat.reduceEqDiff, Nat.reduceLT, Nat.reduceLeDiff, Nat.reduceAdd, Nat.reduceSub, Nat.reduceMul, Nat.reduceGT, Int.reduceNeg, Int.reduceToNat, a1, a2, a3, a4, a8, a9, a10, a36, a37, a38]
    rw [hR]
    clear hR
    generalize hit : Es.stagesA c (Es.todoA l known) tr = items
    refine awp_rangeFunc rfl (by simp) (gf := 60) (caps := [.mp (n1 + 1 + 1 + 1) 0 1 0 0, .mp (n1 + 1 + 1) 0 7 0 0, .mp (n1 + 1 + 1 + 1 + 1) 0 1 0 0]) (by simp only [go_sem, ↓reduceIte, reduceCtorEq, Nat.reduceEqDiff, Nat.reduceLT, Nat.reduceLeDiff, Nat.reduceAdd, Nat.reduceSub, Nat.reduceMul, Nat.reduceGT, Int.reduceNeg, Int.reduceToNat]) (by simp only [go_sem, ↓reduceIte, reduceCtorEq, Nat.reduceEqDiff, Nat.reduceLT, Nat.reduceLeDiff, Nat.reduceAdd, Nat.reduceSub, Nat.reduceMul, Nat.reduceGT, Int.reduceNeg, Int.reduceToNat]) ?_
    intro X2 y rd bz dn hround
    refine stages1_spec X2 _ _ _ y c (Es.todoA l known) tr htr (n1 + 1 + 1 + 1) (n1 + 1 + 1) (n1 + 1 + 1 + 1 + 1) _ (n1 + 1 + 1 + 1 + 1 + 1 + 1) (by omega) ⟨Nat.le_refl _, hf, ?_, ?_⟩ ?_
      (fun i fs st => GoJ n1 items i fs st ∧ st.o (n1 + 1 + 1 + 1 + 1 + 1) 0 = some rd) (fun st => (∃ z, items.find? (fun z => z.err != 0) = some z ∧ (∃ cell, st.o 1 0 = some (.blk 1 1 57 cell) ∧ cell 0 0 = .v (.slice none 0 0)) ∧ (∃ cell, st.o 2 0 = some (.blk 1 1 58 cell) ∧ cell 0 0 = .v (.slice none 0 0)) ∧ ∃ cell, st.o 3 0 = some (.blk 1 1 43 cell) ∧ cell 0 0 = .v (.int .i64 z.err)) ∧ st.o (n1 + 1 + 1 + 1 + 1 + 1) 0 = some (dn .ret)) ?_ ?_ ?_ _ ?_ ?_
    · dsimp only; (repeat (refine (set_ne (by omega)).trans ?_)); exact St_set_self _ _ _ _
    · dsimp only; (repeat (refine (set_ne (by omega)).trans ?_)); exact St_set_self _ _ _ _
    · dsimp only; (repeat (refine (set_ne (by omega)).trans ?_)); exact St_set_self _ _ _ _
    · rintro i fs o nx o' nx' ⟨h1, h2⟩ hn hs
      have hx := h1.nxt
      simp only at hx
      exact ⟨h1.same hn1 hn fun f j h1 h2 h3 h4 h5 => hs f j h1 (by omega) (by omega) h5, (hs (n1 + 1 + 1 + 1 + 1 + 1) 0 (by omega) (by omega) (by omega) (by omega)).trans h2⟩
    · intro fs o' nx' h1 h2 hs
      refine ⟨⟨⟨by omega, h2⟩, .inl ⟨rfl, ⟨rowOf [.v (.slice none 0 0)], (hs n1 0 (by omega) (by omega) (by omega)).trans ?_, rfl⟩, ⟨rowOf [.v (.slice none 0 0)], (hs (n1 + 1) 0 (by omega) (by omega) (by omega)).trans ?_, rfl⟩⟩, ⟨rowOf [.v (.slice none 0 0)], (hs 1 0 (by omega) (by omega) (by omega)).trans ?_⟩, ⟨rowOf [.v (.slice none 0 0)], (hs 2 0 (by omega) (by omega) (by omega)).trans ?_⟩, ⟨rowOf [.v (.int .i64 0)], (hs 3 0 (by omega) (by omega) (by omega)).trans ?_⟩, fun z hz => by simp at hz⟩, (hs (n1 + 1 + 1 + 1 + 1 + 1) 0 (by omega) (by omega) (by omega)).trans ?_⟩
      all_goals dsimp only
      all_goals (repeat (refine (set_ne (by omega)).trans ?_))
      · exact t4
      · exact t5
      · exact t1
      · exact t2
      · exact t3
      · exact St_set_self _ _ _ _
    · rw [hit]
      intro N' b' i fs z o3 n3 hz hfs1 hfs2 ⟨hJ, hrec⟩
      refine around_ctx (hround _ _ _ (by simp) hrec ?_)
      refine wpA_sound _ _ _ _ ?_
      have hx := hJ.nxt
      have hall := hJ.all
      obtain ⟨q1, F1⟩ := hJ.r1
      obtain ⟨q2, F2⟩ := hJ.r2
      obtain ⟨q3, F3⟩ := hJ.r3
      simp only at hx F1 F2 F3 hrec
      have hnextL : items.take (i + 1) = items.take i ++ [z] := by
        obtain ⟨h1, h2⟩ := List.getElem?_eq_some_iff.1 hz
        rw [List.take_succ_eq_append_getElem h1, h2]
      have z1 : (1 = 2) = False := e0 (by omega); have z2 : (1 = 3) = False := e0 (by omega); have z3 : (1 = n1) = False := e0 (by omega); have z4 : (1 = n1 + 1) = False := e0 (by omega); have z5 : (1 = n1 + 1 + 1 + 1 + 1 + 1) = False := e0 (by omega); have z6 : (1 = n3) = False := e0 (by omega); have z7 : (1 = n3 + 1) = False := e0 (by omega); have z8 : (1 = n3 + 1 + 1) = False := e0 (by omega); have z9 : (1 = n3 + 1 + 1 + 1) = False := e0 (by omega); have z10 : (1 = n3 + 1 + 1 + 1 + 1) = False := e0 (by omega); have z11 : (1 = n3 + 1 + 1 + 1 + 1 + 1) = False := e0 (by omega); have z12 : (2 = 1) = False := e0 (by omega); have z13 : (2 = 3) = False := e0 (by omega); have z14 : (2 = n1) = False := e0 (by omega); have z15 : (2 = n1 + 1) = False := e0 (by omega); have z16 : (2 = n1 + 1 + 1 + 1 + 1 + 1) = False := e0 (by omega); have z17 : (2 = n3) = False := e0 (by omega); have z18 : (2 = n3 + 1) = False := e0 (by omega); have z19 : (2 = n3 + 1 + 1) = False := e0 (by omega); have z20 : (2 = n3 + 1 + 1 + 1) = False := e0 (by omega); have z21 : (2 = n3 + 1 + 1 + 1 + 1) = False := e0 (by omega); have z22 : (2 = n3 + 1 + 1 + 1 + 1 + 1) = False := e0 (by omega); have z23 : (3 = 1) = False := e0 (by omega); have z24 : (3 = 2) = False := e0 (by omega); have z25 : (3 = n1) = False := e0 (by omega); have z26 : (3 = n1 + 1) = False := e0 (by omega); have z27 : (3 = n1 + 1 + 1 + 1 + 1 + 1) = False := e0 (by omega); have z28 : (3 = n3) = False := e0 (by omega); have z29 : (3 = n3 + 1) = False := e0 (by omega); have z30 : (3 = n3 + 1 + 1) = False := e0 (by omega); have z31 : (3 = n3 + 1 + 1 + 1) = False := e0 (by omega); have z32 : (3 = n3 + 1 + 1 + 1 + 1) = False := e0 (by omega); have z33 : (3 = n3 + 1 + 1 + 1 + 1 + 1) = False := e0 (by omega); have z34 : (n1 = 1) = False := e0 (by omega); have z35 : (n1 = 2) = False := e0 (by omega); have z36 : (n1 = 3) = False := e0 (by omega); have z37 : (n1 = n1 + 1) = False := e0 (by omega); have z38 : (n1 = n1 + 1 + 1 + 1 + 1 + 1) = False := e0 (by omega); have z39 : (n1 = n3) = False := e0 (by omega); have z40 : (n1 = n3 + 1) = False := e0 (by omega); have z41 : (n1 = n3 + 1 + 1) = False := e0 (by omega); have z42 : (n1 = n3 + 1 + 1 + 1) = False := e0 (by omega); have z43 : (n1 = n3 + 1 + 1 + 1 + 1) = False := e0 (by omega); have z44 : (n1 = n3 + 1 + 1 + 1 + 1 + 1) = False := e0 (by omega); have z45 : (n1 + 1 = 1) = False := e0 (by omega); have z46 : (n1 + 1 = 2) = False := e0 (by omega); have z47 : (n1 + 1 = 3) = False := e0 (by omega); have z48 : (n1 + 1 = n1) = False := e0 (by omega); have z49 : (n1 + 1 = n1 + 1 + 1 + 1 + 1 + 1) = False := e0 (by omega); have z50 : (n1 + 1 = n3) = False := e0 (by omega); have z51 : (n1 + 1 = n3 + 1) = False := e0 (by omega); have z52 : (n1 + 1 = n3 + 1 + 1) = False := e0 (by omega); have z53 : (n1 + 1 = n3 + 1 + 1 + 1) = False := e0 (by omega); have z54 : (n1 + 1 = n3 + 1 + 1 + 1 + 1) = False := e0 (by omega); have z55 : (n1 + 1 = n3 + 1 + 1 + 1 + 1 + 1) = False := e0 (by omega); have z56 : (n1 + 1 + 1 + 1 + 1 + 1 = 1) = False := e0 (by omega); have z57 : (n1 + 1 + 1 + 1 + 1 + 1 = 2) = False := e0 (by omega); have z58 : (n1 + 1 + 1 + 1 + 1 + 1 = 3) = False := e0 (by omega); have z59 : (n1 + 1 + 1 + 1 + 1 + 1 = n1) = False := e0 (by omega); have z60 : (n1 + 1 + 1 + 1 + 1 + 1 = n1 + 1) = False := e0 (by omega); have z61 : (n1 + 1 + 1 + 1 + 1 + 1 = n3) = False := e0 (by omega); have z62 : (n1 + 1 + 1 + 1 + 1 + 1 = n3 + 1) = False := e0 (by omega); have z63 : (n1 + 1 + 1 + 1 + 1 + 1 = n3 + 1 + 1) = False := e0 (by omega); have z64 : (n1 + 1 + 1 + 1 + 1 + 1 = n3 + 1 + 1 + 1) = False := e0 (by omega); have z65 : (n1 + 1 + 1 + 1 + 1 + 1 = n3 + 1 + 1 + 1 + 1) = False := e0 (by omega); have z66 : (n1 + 1 + 1 + 1 + 1 + 1 = n3 + 1 + 1 + 1 + 1 + 1) = False := e0 (by omega); have z67 : (n3 = 1) = False := e0 (by omega); have z68 : (n3 = 2) = False := e0 (by omega); have z69 : (n3 = 3) = False := e0 (by omega); have z70 : (n3 = n1) = False := e0 (by omega); have z71 : (n3 = n1 + 1) = False := e0 (by omega); have z72 : (n3 = n1 + 1 + 1 + 1 + 1 + 1) = False := e0 (by omega); have z73 : (n3 = n3 + 1) = False := e0 (by omega); have z74 : (n3 = n3 + 1 + 1) = False := e0 (by omega); have z75 : (n3 = n3 + 1 + 1 + 1) = False := e0 (by omega); have z76 : (n3 = n3 + 1 + 1 + 1 + 1) = False := e0 (by omega); have z77 : (n3 = n3 + 1 + 1 + 1 + 1 + 1) = False := e0 (by omega); have z78 : (n3 + 1 = 1) = False := e0 (by omega); have z79 : (n3 + 1 = 2) = False := e0 (by omega); have z80 : (n3 + 1 = 3) = False := e0 (by omega); have z81 : (n3 + 1 = n1) = False := e0 (by omega); have z82 : (n3 + 1 = n1 + 1) = False := e0 (by omega); have z83 : (n3 + 1 = n1 + 1 + 1 + 1 + 1 + 1) = False := e0 (by omega); have z84 : (n3 + 1 = n3) = False := e0 (by omega); have z85 : (n3 + 1 = n3 + 1 + 1) = False := e0 (by omega); have z86 : (n3 + 1 = n3 + 1 + 1 + 1) = False := e0 (by omega); have z87 : (n3 + 1 = n3 + 1 + 1 + 1 + 1) = False := e0 (by omega); have z88 : (n3 + 1 = n3 + 1 + 1 + 1 + 1 + 1) = False := e0 (by omega); have z89 : (n3 + 1 + 1 = 1) = False := e0 (by omega); have z90 : (n3 + 1 + 1 = 2) = False := e0 (by omega); have z91 : (n3 + 1 + 1 = 3) = False := e0 (by omega); have z92 : (n3 + 1 + 1 = n1) = False := e0 (by omega); have z93 : (n3 + 1 + 1 = n1 + 1) = False := e0 (by omega); have z94 : (n3 + 1 + 1 = n1 + 1 + 1 + 1 + 1 + 1) = False := e0 (by omega); have z95 : (n3 + 1 + 1 = n3) = False := e0 (by omega); have z96 : (n3 + 1 + 1 = n3 + 1) = False := e0 (by omega); have z97 : (n3 + 1 + 1 = n3 + 1 + 1 + 1) = False := e0 (by omega); have z98 : (n3 + 1 + 1 = n3 + 1 + 1 + 1 + 1) = False := e0 (by omega); have z99 : (n3 + 1 + 1 = n3 + 1 + 1 + 1 + 1 + 1) = False := e0 (by omega); have z100 : (n3 + 1 + 1 + 1 = 1) = False := e0 (by omega); have z101 : (n3 + 1 + 1 + 1 = 2) = False := e0 (by omega); have z102 : (n3 + 1 + 1 + 1 = 3) = False := e0 (by omega); have z103 : (n3 + 1 + 1 + 1 = n1) = False := e0 (by omega); have z104 : (n3 + 1 + 1 + 1 = n1 + 1) = False := e0 (by omega); have z105 : (n3 + 1 + 1 + 1 = n1 + 1 + 1 + 1 + 1 + 1) = False := e0 (by omega); have z106 : (n3 + 1 + 1 + 1 = n3) = False := e0 (by omega); have z107 : (n3 + 1 + 1 + 1 = n3 + 1) = False := e0 (by omega); have z108 : (n3 + 1 + 1 + 1 = n3 + 1 + 1) = False := e0 (by omega); have z109 : (n3 + 1 + 1 + 1 = n3 + 1 + 1 + 1 + 1) = False := e0 (by omega); have z110 : (n3 + 1 + 1 + 1 = n3 + 1 + 1 + 1 + 1 + 1) = False := e0 (by omega); have z111 : (n3 + 1 + 1 + 1 + 1 = 1) = False := e0 (by omega); have z112 : (n3 + 1 + 1 + 1 + 1 = 2) = False := e0 (by omega); have z113 : (n3 + 1 + 1 + 1 + 1 = 3) = False := e0 (by omega); have z114 : (n3 + 1 + 1 + 1 + 1 = n1) = False := e0 (by omega); have z115 : (n3 + 1 + 1 + 1 + 1 = n1 + 1) = False := e0 (by omega); have z116 : (n3 + 1 + 1 + 1 + 1 = n1 + 1 + 1 + 1 + 1 + 1) = False := e0 (by omega); have z117 : (n3 + 1 + 1 + 1 + 1 = n3) = False := e0 (by omega); have z118 : (n3 + 1 + 1 + 1 + 1 = n3 + 1) = False := e0 (by omega); have z119 : (n3 + 1 + 1 + 1 + 1 = n3 + 1 + 1) = False := e0 (by omega); have z120 : (n3 + 1 + 1 + 1 + 1 = n3 + 1 + 1 + 1) = False := e0 (by omega); have z121 : (n3 + 1 + 1 + 1 + 1 = n3 + 1 + 1 + 1 + 1 + 1) = False := e0 (by omega); have z122 : (n3 + 1 + 1 + 1 + 1 + 1 = 1) = False := e0 (by omega); have z123 : (n3 + 1 + 1 + 1 + 1 + 1 = 2) = False := e0 (by omega); have z124 : (n3 + 1 + 1 + 1 + 1 + 1 = 3) = False := e0 (by omega); have z125 : (n3 + 1 + 1 + 1 + 1 + 1 = n1) = False := e0 (by omega); have z126 : (n3 + 1 + 1 + 1 + 1 + 1 = n1 + 1) = False := e0 (by omega); have z127 : (n3 + 1 + 1 + 1 + 1 + 1 = n1 + 1 + 1 + 1 + 1 + 1) = False := e0 (by omega); have z128 : (n3 + 1 + 1 + 1 + 1 + 1 = n3) = False := e0 (by omega); have z129 : (n3 + 1 + 1 + 1 + 1 + 1 = n3 + 1) = False := e0 (by omega); have z130 : (n3 + 1 + 1 + 1 + 1 + 1 = n3 + 1 + 1) = False := e0 (by omega); have z131 : (n3 + 1 + 1 + 1 + 1 + 1 = n3 + 1 + 1 + 1) = False := e0 (by omega); have z132 : (n3 + 1 + 1 + 1 + 1 + 1 = n3 + 1 + 1 + 1 + 1) = False := e0 (by omega)
      rcases hJ.two with ⟨e1, ⟨u1, e2, e3⟩, ⟨u2, e4, e5⟩⟩ | ⟨g1, g2, u3, u4, hne, ⟨v1, v2, v3, v4⟩, ⟨u1, e2, e3⟩, ⟨u2, e4, e5⟩, ⟨e6, e7⟩, ⟨e8, e9⟩⟩
      · simp only at e2 e4
        rw [e1, List.nil_append] at hnextL
        simp only [go_sem, ↓reduceIte, reduceCtorEq, Nat.reduceEqDiff, Nat.reduceLT, Nat.reduceLeDiff, Nat.reduceAdd, Nat.reduceSub, Nat.reduceMul, Nat.reduceGT, Int.reduceNeg, Int.reduceToNat, stgL_eq, envAt, F1, F2, F3, hrec, e2, e3, e4, e5, a8, a9, a10, z1, z2, z3, z4, z5, z6, z7, z8, z9, z10, z11, z12, z13, z14, z15, z16, z17, z18, z19, z20, z21, z22, z23, z24, z25, z26, z27, z28, z29, z30, z31, z32, z33, z34, z35, z36, z37, z38, z39, z40, z41, z42, z43, z44, z45, z46, z47, z48, z49, z50, z51, z52, z53, z54, z55, z56, z57, z58, z59, z60, z61, z62, z63, z64, z65, z66, z67, z68, z69, z70, z71, z72, z73, z74, z75, z76, z77, z78, z79, z80, z81, z82, z83, z84, z85, z86, z87, z88, z89, z90, z91, z92, z93, z94, z95, z96, z97, z98, z99, z100, z101, z102, z103, z104, z105, z106, z107, z108, z109, z110, z111, z112, z113, z114, z115, z116, z117, z118, z119, z120, z121, z122, z123, z124, z125, z126, z127, z128, z129, z130, z131, z132]
        refine wpA_sound _ _ _ _ ?_
        simp only [go_sem, ↓reduceIte, reduceCtorEq, Nat.reduceEqDiff, Nat.reduceLT, Nat.reduceLeDiff, Nat.reduceAdd, Nat.reduceSub, Nat.reduceMul, Nat.reduceGT, Int.reduceNeg, Int.reduceToNat, stgL_eq, F1, F2, F3, hrec, e2, e3, e4, e5, a8, a9, a10, z1, z2, z3, z4, z5, z6, z7, z8, z9, z10, z11, z12, z13, z14, z15, z16, z17, z18, z19, z20, z21, z22, z23, z24, z25, z26, z27, z28, z29, z30, z31, z32, z33, z34, z35, z36, z37, z38, z39, z40, z41, z42, z43, z44, z45, z46, z47, z48, z49, z50, z51, z52, z53, z54, z55, z56, z57, z58, z59, z60, z61, z62, z63, z64, z65, z66, z67, z68, z69, z70, z71, z72, z73, z74, z75, z76, z77, z78, z79, z80, z81, z82, z83, z84, z85, z86, z87, z88, z89, z90, z91, z92, z93, z94, z95, z96, z97, z98, z99, z100, z101, z102, z103, z104, z105, z106, z107, z108, z109, z110, z111, z112, z113, z114, z115, z116, z117, z118, z119, z120, z121, z122, z123, z124, z125, z126, z127, z128, z129, z130, z131, z132]
        refine ite_cases (fun herr => ?_) (fun herr => ?_)
        ·
          refine AWp.mono (Q := fun x _ s1 => x = .normal ∧ Bad n1 fs o3 n3 bz z.err s1) ?_ ?_
          · refine awp_plan ((.op 0 (.alt 1 (.op 2 (.op 3 (.op 4 .done))) (.alt 2 (.alt 1 (.op 3 (.op 4 .done)) (.alt 3 (.op 1 (.op 4 .done)) .dead)) .dead)))) [2, 3, 4] mix (by kernel_rfl) ?_
            simp only [go_sem, ↓reduceIte, reduceCtorEq, Nat.reduceEqDiff, Nat.reduceLT, Nat.reduceLeDiff, Nat.reduceAdd, Nat.reduceSub, Nat.reduceMul, Nat.reduceGT, Int.reduceNeg, Int.reduceToNat, F1, F2, F3, hrec, a8, a9, a10, z1, z2, z3, z4, z5, z6, z7, z8, z9, z10, z11, z12, z13, z14, z15, z16, z17, z18, z19, z20, z21, z22, z23, z24, z25, z26, z27, z28, z29, z30, z31, z32, z33, z34, z35, z36, z37, z38, z39, z40, z41, z42, z43, z44, z45, z46, z47, z48, z49, z50, z51, z52, z53, z54, z55, z56, z57, z58, z59, z60, z61, z62, z63, z64, z65, z66, z67, z68, z69, z70, z71, z72, z73, z74, z75, z76, z77, z78, z79, z80, z81, z82, z83, z84, z85, z86, z87, z88, z89, z90, z91, z92, z93, z94, z95, z96, z97, z98, z99, z100, z101, z102, z103, z104, z105, z106, z107, z108, z109, z110, z111, z112, z113, z114, z115, z116, z117, z118, z119, z120, z121, z122, z123, z124, z125, z126, z127, z128, z129, z130, z131, z132]
            repeat' (first | (with_reducible refine And.intro ?_ ?_) | ((with_reducible refine ite_cases ?_ ?_) <;> intro _))
            all_goals apply Bad.of
            all_goals first
              | ((repeat (refine (set_ne (by omega)).trans ?_)); first | exact St_set_self _ _ _ _ | rfl)
              | (simp only; omega)
          · rintro x e5 ⟨o5, n5⟩ ⟨rfl, hP⟩
            have hx5 := hP.nxt
            simp only at hx5
            refine ⟨hP.rcd, hx5, ⟨(put_ne (by omega)).trans hP.fl, (put_ne (by omega)).trans hP.fc, (put_ne (by omega)).trans hP.ft, (put_ne (by omega)).trans hP.hs⟩, .inr ⟨rfl, ⟨z, find_at hz hall (by simpa using herr), ?_, ?_, ?_⟩, put_self⟩⟩
            · obtain ⟨cell, h1, h2⟩ := hP.r1; exact ⟨cell, (put_ne (by omega)).trans h1, h2⟩
            · obtain ⟨cell, h1, h2⟩ := hP.r2; exact ⟨cell, (put_ne (by omega)).trans h1, h2⟩
            · obtain ⟨cell, h1, h2⟩ := hP.r3; exact ⟨cell, (put_ne (by omega)).trans h1, h2⟩
        · refine AWp.mono (Q := fun x _ s1 => x = .normal ∧ Aft n1 fs o3 n3 bz [z] s1) ?_ ?_
          ·
            refine awp_wf fun hwf => ?_
            have hwn : ∀ k, n3 + 1 ≤ k → o3 k 0 = none := fun k hk => by
              have := hwf k 0 (by simp only; omega)
              simp only [St.set] at this
              (repeat rw [if_neg (by omega)] at this)
              exact this
            have w2 := hwn (n3 + 1) (by omega)
            have w3 := hwn (n3 + 1 + 1) (by omega)
            have w4 := hwn (n3 + 1 + 1 + 1) (by omega)
            have w5 := hwn (n3 + 1 + 1 + 1 + 1) (by omega)
            refine awp_plan ((.op 0 (.op 1 (.op 2 (.op 6 (.alt 3 (.alt 4 (.op 5 (.op 7 (.op 8 (.op 9 (.op 10 (.op 11 .done)))))) (.alt 5 (.alt 4 (.op 7 (.op 8 (.op 9 (.op 10 (.op 11 .done))))) (.alt 7 (.alt 4 (.op 8 (.op 9 (.op 10 (.op 11 .done)))) (.alt 8 (.op 4 (.op 9 (.op 10 (.op 11 .done)))) .dead)) .dead)) (.alt 7 (.alt 4 (.op 5 (.op 8 (.op 9 (.op 10 (.op 11 .done))))) (.alt 5 (.alt 4 (.op 8 (.op 9 (.op 10 (.op 11 .done)))) (.alt 8 (.op 4 (.op 9 (.op 10 (.op 11 .done)))) .dead)) (.alt 8 (.alt 4 (.op 5 (.op 9 (.op 10 (.op 11 .done)))) (.alt 5 (.op 4 (.op 9 (.op 10 (.op 11 .done)))) .dead)) .dead))) .dead))) (.alt 5 (.alt 3 (.alt 4 (.op 7 (.op 8 (.op 9 (.op 10 (.op 11 .done))))) (.alt 7 (.alt 4 (.op 8 (.op 9 (.op 10 (.op 11 .done)))) (.alt 8 (.op 4 (.op 9 (.op 10 (.op 11 .done)))) .dead)) .dead)) (.alt 7 (.alt 3 (.alt 4 (.op 8 (.op 9 (.op 10 (.op 11 .done)))) (.alt 8 (.op 4 (.op 9 (.op 10 (.op 11 .done)))) .dead)) (.alt 8 (.op 3 (.op 4 (.op 9 (.op 10 (.op 11 .done))))) .dead)) .dead)) (.alt 7 (.alt 3 (.alt 4 (.op 5 (.op 8 (.op 9 (.op 10 (.op 11 .done))))) (.alt 5 (.alt 4 (.op 8 (.op 9 (.op 10 (.op 11 .done)))) (.alt 8 (.op 4 (.op 9 (.op 10 (.op 11 .done)))) .dead)) (.alt 8 (.alt 4 (.op 5 (.op 9 (.op 10 (.op 11 .done)))) (.alt 5 (.op 4 (.op 9 (.op 10 (.op 11 .done)))) .dead)) .dead))) (.alt 5 (.alt 3 (.alt 4 (.op 8 (.op 9 (.op 10 (.op 11 .done)))) (.alt 8 (.op 4 (.op 9 (.op 10 (.op 11 .done)))) .dead)) (.alt 8 (.op 3 (.op 4 (.op 9 (.op 10 (.op 11 .done))))) .dead)) (.alt 8 (.alt 3 (.alt 4 (.op 5 (.op 9 (.op 10 (.op 11 .done)))) (.alt 5 (.op 4 (.op 9 (.op 10 (.op 11 .done)))) .dead)) (.alt 5 (.op 3 (.op 4 (.op 9 (.op 10 (.op 11 .done))))) .dead)) .dead))) .dead)))))))) [4, 9, 10, 11] mix (by kernel_rfl) ?_
            simp only [go_sem, ↓reduceIte, reduceCtorEq, Nat.reduceEqDiff, Nat.reduceLT, Nat.reduceLeDiff, Nat.reduceAdd, Nat.reduceSub, Nat.reduceMul, Nat.reduceGT, Int.reduceNeg, Int.reduceToNat, F1, F2, F3, hrec, e2, e3, e4, e5, a8, a9, a10, w2, w3, w4, w5, z1, z2, z3, z4, z5, z6, z7, z8, z9, z10, z11, z12, z13, z14, z15, z16, z17, z18, z19, z20, z21, z22, z23, z24, z25, z26, z27, z28, z29, z30, z31, z32, z33, z34, z35, z36, z37, z38, z39, z40, z41, z42, z43, z44, z45, z46, z47, z48, z49, z50, z51, z52, z53, z54, z55, z56, z57, z58, z59, z60, z61, z62, z63, z64, z65, z66, z67, z68, z69, z70, z71, z72, z73, z74, z75, z76, z77, z78, z79, z80, z81, z82, z83, z84, z85, z86, z87, z88, z89, z90, z91, z92, z93, z94, z95, z96, z97, z98, z99, z100, z101, z102, z103, z104, z105, z106, z107, z108, z109, z110, z111, z112, z113, z114, z115, z116, z117, z118, z119, z120, z121, z122, z123, z124, z125, z126, z127, z128, z129, z130, z131, z132]
            repeat' (first | (with_reducible refine And.intro ?_ ?_) | ((with_reducible refine ite_cases ?_ ?_) <;> intro _))
            all_goals first
              | omega
              | (refine keeps_set ?_; (repeat (refine (set_ne (by omega)).trans ?_)); exact hwn _ (by omega))
              | skip
            all_goals clear z1 z2 z3 z4 z5 z6 z7 z8 z9 z10 z11 z12 z13 z14 z15 z16 z17 z18 z19 z20 z21 z22 z23 z24 z25 z26 z27 z28 z29 z30 z31 z32 z33 z34 z35 z36 z37 z38 z39 z40 z41 z42 z43 z44 z45 z46 z47 z48 z49 z50 z51 z52 z53 z54 z55 z56 z57 z58 z59 z60 z61 z62 z63 z64 z65 z66 z67 z68 z69 z70 z71 z72 z73 z74 z75 z76 z77 z78 z79 z80 z81 z82 z83 z84 z85 z86 z87 z88 z89 z90 z91 z92 z93 z94 z95 z96 z97 z98 z99 z100 z101 z102 z103 z104 z105 z106 z107 z108 z109 z110 z111 z112 z113 z114 z115 z116 z117 z118 z119 z120 z121 z122 z123 z124 z125 z126 z127 z128 z129 z130 z131 z132
            all_goals apply Aft.one
            all_goals first
              | ((repeat (refine (set_ne (by omega)).trans ?_)); first | exact St_set_self _ _ _ _ | rfl | exact F1 | exact F2 | exact F3 | exact hrec)
              | skip
            all_goals first
              | ((repeat (refine (set_ne (by omega)).trans ?_)); first | exact St_set_self _ _ _ _ | exact F1 | exact F2 | exact F3)
              | (simp only; omega)
              | omega
              | exact con_lit _
              | exact sta_lit _
              | rfl
          ·
            rintro x e5 ⟨o5, n5⟩ ⟨rfl, hP⟩
            have hx5 := hP.nxt
            simp only at hx5
            have he0 : z.err = 0 := by simpa using herr
            have hall' : ∀ y ∈ items.take (i + 1), y.err = 0 := fun y hy => by
              obtain ⟨h1, h2⟩ := List.getElem?_eq_some_iff.1 hz
              rw [List.take_succ_eq_append_getElem h1, h2] at hy
              rcases List.mem_append.1 hy with hy | hy
              · exact hall y hy
              · rw [List.mem_singleton.1 hy]; exact he0
            have hG : GoJ n1 items (i + 1) fs ⟨o5, n5⟩ := ⟨⟨hx.1, by simp only; omega⟩, by rw [hnextL]; exact hP.two, ⟨q1, hP.r1.trans F1⟩, ⟨q2, hP.r2.trans F2⟩, ⟨q3, hP.r3.trans F3⟩, hall'⟩
            refine ⟨hP.rcd, hx5, ⟨(put_ne (by omega)).trans hP.fl, (put_ne (by omega)).trans hP.fc, (put_ne (by omega)).trans hP.ft, (put_ne (by omega)).trans hP.hs⟩, .inl ⟨rfl, hG.same hn1 (Nat.le_refl _) fun f j h1 h2 h3 h4 h5 => put_ne (by omega), put_self⟩⟩
      · simp only at v2 v4 e2 e4 e6 e8
        have hlk : (items.take i).length ≤ 1000000001 := by
          rw [List.length_take]
          have h1 : items.length ≤ tr.length + 1 := by rw [← hit]; exact Es.stagesA_len _ _ _
          omega
        have y1 : (g1 = g2) = False := e0 (by omega); have y2 : (g1 = 1) = False := e0 (by omega); have y3 : (g1 = 2) = False := e0 (by omega); have y4 : (g1 = 3) = False := e0 (by omega); have y5 : (g1 = n1) = False := e0 (by omega); have y6 : (g1 = n1 + 1) = False := e0 (by omega); have y7 : (g1 = n1 + 1 + 1 + 1 + 1 + 1) = False := e0 (by omega); have y8 : (g1 = n3) = False := e0 (by omega); have y9 : (g1 = n3 + 1) = False := e0 (by omega); have y10 : (g1 = n3 + 1 + 1) = False := e0 (by omega); have y11 : (g1 = n3 + 1 + 1 + 1) = False := e0 (by omega); have y12 : (g1 = n3 + 1 + 1 + 1 + 1) = False := e0 (by omega); have y13 : (g1 = n3 + 1 + 1 + 1 + 1 + 1) = False := e0 (by omega); have y14 : (g2 = g1) = False := e0 (by omega); have y15 : (g2 = 1) = False := e0 (by omega); have y16 : (g2 = 2) = False := e0 (by omega); have y17 : (g2 = 3) = False := e0 (by omega); have y18 : (g2 = n1) = False := e0 (by omega); have y19 : (g2 = n1 + 1) = False := e0 (by omega); have y20 : (g2 = n1 + 1 + 1 + 1 + 1 + 1) = False := e0 (by omega); have y21 : (g2 = n3) = False := e0 (by omega); have y22 : (g2 = n3 + 1) = False := e0 (by omega); have y23 : (g2 = n3 + 1 + 1) = False := e0 (by omega); have y24 : (g2 = n3 + 1 + 1 + 1) = False := e0 (by omega); have y25 : (g2 = n3 + 1 + 1 + 1 + 1) = False := e0 (by omega); have y26 : (g2 = n3 + 1 + 1 + 1 + 1 + 1) = False := e0 (by omega); have y27 : (1 = g1) = False := e0 (by omega); have y28 : (1 = g2) = False := e0 (by omega); have y29 : (1 = 2) = False := e0 (by omega); have y30 : (1 = 3) = False := e0 (by omega); have y31 : (1 = n1) = False := e0 (by omega); have y32 : (1 = n1 + 1) = False := e0 (by omega); have y33 : (1 = n1 + 1 + 1 + 1 + 1 + 1) = False := e0 (by omega); have y34 : (1 = n3) = False := e0 (by omega); have y35 : (1 = n3 + 1) = False := e0 (by omega); have y36 : (1 = n3 + 1 + 1) = False := e0 (by omega); have y37 : (1 = n3 + 1 + 1 + 1) = False := e0 (by omega); have y38 : (1 = n3 + 1 + 1 + 1 + 1) = False := e0 (by omega); have y39 : (1 = n3 + 1 + 1 + 1 + 1 + 1) = False := e0 (by omega); have y40 : (2 = g1) = False := e0 (by omega); have y41 : (2 = g2) = False := e0 (by omega); have y42 : (2 = 1) = False := e0 (by omega); have y43 : (2 = 3) = False := e0 (by omega); have y44 : (2 = n1) = False := e0 (by omega); have y45 : (2 = n1 + 1) = False := e0 (by omega); have y46 : (2 = n1 + 1 + 1 + 1 + 1 + 1) = False := e0 (by omega); have y47 : (2 = n3) = False := e0 (by omega); have y48 : (2 = n3 + 1) = False := e0 (by omega); have y49 : (2 = n3 + 1 + 1) = False := e0 (by omega); have y50 : (2 = n3 + 1 + 1 + 1) = False := e0 (by omega); have y51 : (2 = n3 + 1 + 1 + 1 + 1) = False := e0 (by omega); have y52 : (2 = n3 + 1 + 1 + 1 + 1 + 1) = False := e0 (by omega); have y53 : (3 = g1) = False := e0 (by omega); have y54 : (3 = g2) = False := e0 (by omega); have y55 : (3 = 1) = False := e0 (by omega); have y56 : (3 = 2) = False := e0 (by omega); have y57 : (3 = n1) = False := e0 (by omega); have y58 : (3 = n1 + 1) = False := e0 (by omega); have y59 : (3 = n1 + 1 + 1 + 1 + 1 + 1) = False := e0 (by omega); have y60 : (3 = n3) = False := e0 (by omega); have y61 : (3 = n3 + 1) = False := e0 (by omega); have y62 : (3 = n3 + 1 + 1) = False := e0 (by omega); have y63 : (3 = n3 + 1 + 1 + 1) = False := e0 (by omega); have y64 : (3 = n3 + 1 + 1 + 1 + 1) = False := e0 (by omega); have y65 : (3 = n3 + 1 + 1 + 1 + 1 + 1) = False := e0 (by omega); have y66 : (n1 = g1) = False := e0 (by omega); have y67 : (n1 = g2) = False := e0 (by omega); have y68 : (n1 = 1) = False := e0 (by omega); have y69 : (n1 = 2) = False := e0 (by omega); have y70 : (n1 = 3) = False := e0 (by omega); have y71 : (n1 = n1 + 1) = False := e0 (by omega); have y72 : (n1 = n1 + 1 + 1 + 1 + 1 + 1) = False := e0 (by omega); have y73 : (n1 = n3) = False := e0 (by omega); have y74 : (n1 = n3 + 1) = False := e0 (by omega); have y75 : (n1 = n3 + 1 + 1) = False := e0 (by omega); have y76 : (n1 = n3 + 1 + 1 + 1) = False := e0 (by omega); have y77 : (n1 = n3 + 1 + 1 + 1 + 1) = False := e0 (by omega); have y78 : (n1 = n3 + 1 + 1 + 1 + 1 + 1) = False := e0 (by omega); have y79 : (n1 + 1 = g1) = False := e0 (by omega); have y80 : (n1 + 1 = g2) = False := e0 (by omega); have y81 : (n1 + 1 = 1) = False := e0 (by omega); have y82 : (n1 + 1 = 2) = False := e0 (by omega); have y83 : (n1 + 1 = 3) = False := e0 (by omega); have y84 : (n1 + 1 = n1) = False := e0 (by omega); have y85 : (n1 + 1 = n1 + 1 + 1 + 1 + 1 + 1) = False := e0 (by omega); have y86 : (n1 + 1 = n3) = False := e0 (by omega); have y87 : (n1 + 1 = n3 + 1) = False := e0 (by omega); have y88 : (n1 + 1 = n3 + 1 + 1) = False := e0 (by omega); have y89 : (n1 + 1 = n3 + 1 + 1 + 1) = False := e0 (by omega); have y90 : (n1 + 1 = n3 + 1 + 1 + 1 + 1) = False := e0 (by omega); have y91 : (n1 + 1 = n3 + 1 + 1 + 1 + 1 + 1) = False := e0 (by omega); have y92 : (n1 + 1 + 1 + 1 + 1 + 1 = g1) = False := e0 (by omega); have y93 : (n1 + 1 + 1 + 1 + 1 + 1 = g2) = False := e0 (by omega); have y94 : (n1 + 1 + 1 + 1 + 1 + 1 = 1) = False := e0 (by omega); have y95 : (n1 + 1 + 1 + 1 + 1 + 1 = 2) = False := e0 (by omega); have y96 : (n1 + 1 + 1 + 1 + 1 + 1 = 3) = False := e0 (by omega); have y97 : (n1 + 1 + 1 + 1 + 1 + 1 = n1) = False := e0 (by omega); have y98 : (n1 + 1 + 1 + 1 + 1 + 1 = n1 + 1) = False := e0 (by omega); have y99 : (n1 + 1 + 1 + 1 + 1 + 1 = n3) = False := e0 (by omega); have y100 : (n1 + 1 + 1 + 1 + 1 + 1 = n3 + 1) = False := e0 (by omega); have y101 : (n1 + 1 + 1 + 1 + 1 + 1 = n3 + 1 + 1) = False := e0 (by omega); have y102 : (n1 + 1 + 1 + 1 + 1 + 1 = n3 + 1 + 1 + 1) = False := e0 (by omega); have y103 : (n1 + 1 + 1 + 1 + 1 + 1 = n3 + 1 + 1 + 1 + 1) = False := e0 (by omega); have y104 : (n1 + 1 + 1 + 1 + 1 + 1 = n3 + 1 + 1 + 1 + 1 + 1) = False := e0 (by omega); have y105 : (n3 = g1) = False := e0 (by omega); have y106 : (n3 = g2) = False := e0 (by omega); have y107 : (n3 = 1) = False := e0 (by omega); have y108 : (n3 = 2) = False := e0 (by omega); have y109 : (n3 = 3) = False := e0 (by omega); have y110 : (n3 = n1) = False := e0 (by omega); have y111 : (n3 = n1 + 1) = False := e0 (by omega); have y112 : (n3 = n1 + 1 + 1 + 1 + 1 + 1) = False := e0 (by omega); have y113 : (n3 = n3 + 1) = False := e0 (by omega); have y114 : (n3 = n3 + 1 + 1) = False := e0 (by omega); have y115 : (n3 = n3 + 1 + 1 + 1) = False := e0 (by omega); have y116 : (n3 = n3 + 1 + 1 + 1 + 1) = False := e0 (by omega); have y117 : (n3 = n3 + 1 + 1 + 1 + 1 + 1) = False := e0 (by omega); have y118 : (n3 + 1 = g1) = False := e0 (by omega); have y119 : (n3 + 1 = g2) = False := e0 (by omega); have y120 : (n3 + 1 = 1) = False := e0 (by omega); have y121 : (n3 + 1 = 2) = False := e0 (by omega); have y122 : (n3 + 1 = 3) = False := e0 (by omega); have y123 : (n3 + 1 = n1) = False := e0 (by omega); have y124 : (n3 + 1 = n1 + 1) = False := e0 (by omega); have y125 : (n3 + 1 = n1 + 1 + 1 + 1 + 1 + 1) = False := e0 (by omega); have y126 : (n3 + 1 = n3) = False := e0 (by omega); have y127 : (n3 + 1 = n3 + 1 + 1) = False := e0 (by omega); have y128 : (n3 + 1 = n3 + 1 + 1 + 1) = False := e0 (by omega); have y129 : (n3 + 1 = n3 + 1 + 1 + 1 + 1) = False := e0 (by omega); have y130 : (n3 + 1 = n3 + 1 + 1 + 1 + 1 + 1) = False := e0 (by omega); have y131 : (n3 + 1 + 1 = g1) = False := e0 (by omega); have y132 : (n3 + 1 + 1 = g2) = False := e0 (by omega); have y133 : (n3 + 1 + 1 = 1) = False := e0 (by omega); have y134 : (n3 + 1 + 1 = 2) = False := e0 (by omega); have y135 : (n3 + 1 + 1 = 3) = False := e0 (by omega); have y136 : (n3 + 1 + 1 = n1) = False := e0 (by omega); have y137 : (n3 + 1 + 1 = n1 + 1) = False := e0 (by omega); have y138 : (n3 + 1 + 1 = n1 + 1 + 1 + 1 + 1 + 1) = False := e0 (by omega); have y139 : (n3 + 1 + 1 = n3) = False := e0 (by omega); have y140 : (n3 + 1 + 1 = n3 + 1) = False := e0 (by omega); have y141 : (n3 + 1 + 1 = n3 + 1 + 1 + 1) = False := e0 (by omega); have y142 : (n3 + 1 + 1 = n3 + 1 + 1 + 1 + 1) = False := e0 (by omega); have y143 : (n3 + 1 + 1 = n3 + 1 + 1 + 1 + 1 + 1) = False := e0 (by omega); have y144 : (n3 + 1 + 1 + 1 = g1) = False := e0 (by omega); have y145 : (n3 + 1 + 1 + 1 = g2) = False := e0 (by omega); have y146 : (n3 + 1 + 1 + 1 = 1) = False := e0 (by omega); have y147 : (n3 + 1 + 1 + 1 = 2) = False := e0 (by omega); have y148 : (n3 + 1 + 1 + 1 = 3) = False := e0 (by omega); have y149 : (n3 + 1 + 1 + 1 = n1) = False := e0 (by omega); have y150 : (n3 + 1 + 1 + 1 = n1 + 1) = False := e0 (by omega); have y151 : (n3 + 1 + 1 + 1 = n1 + 1 + 1 + 1 + 1 + 1) = False := e0 (by omega); have y152 : (n3 + 1 + 1 + 1 = n3) = False := e0 (by omega); have y153 : (n3 + 1 + 1 + 1 = n3 + 1) = False := e0 (by omega); have y154 : (n3 + 1 + 1 + 1 = n3 + 1 + 1) = False := e0 (by omega); have y155 : (n3 + 1 + 1 + 1 = n3 + 1 + 1 + 1 + 1) = False := e0 (by omega); have y156 : (n3 + 1 + 1 + 1 = n3 + 1 + 1 + 1 + 1 + 1) = False := e0 (by omega); have y157 : (n3 + 1 + 1 + 1 + 1 = g1) = False := e0 (by omega); have y158 : (n3 + 1 + 1 + 1 + 1 = g2) = False := e0 (by omega); have y159 : (n3 + 1 + 1 + 1 + 1 = 1) = False := e0 (by omega); have y160 : (n3 + 1 + 1 + 1 + 1 = 2) = False := e0 (by omega); have y161 : (n3 + 1 + 1 + 1 + 1 = 3) = False := e0 (by omega); have y162 : (n3 + 1 + 1 + 1 + 1 = n1) = False := e0 (by omega); have y163 : (n3 + 1 + 1 + 1 + 1 = n1 + 1) = False := e0 (by omega); have y164 : (n3 + 1 + 1 + 1 + 1 = n1 + 1 + 1 + 1 + 1 + 1) = False := e0 (by omega); have y165 : (n3 + 1 + 1 + 1 + 1 = n3) = False := e0 (by omega); have y166 : (n3 + 1 + 1 + 1 + 1 = n3 + 1) = False := e0 (by omega); have y167 : (n3 + 1 + 1 + 1 + 1 = n3 + 1 + 1) = False := e0 (by omega); have y168 : (n3 + 1 + 1 + 1 + 1 = n3 + 1 + 1 + 1) = False := e0 (by omega); have y169 : (n3 + 1 + 1 + 1 + 1 = n3 + 1 + 1 + 1 + 1 + 1) = False := e0 (by omega); have y170 : (n3 + 1 + 1 + 1 + 1 + 1 = g1) = False := e0 (by omega); have y171 : (n3 + 1 + 1 + 1 + 1 + 1 = g2) = False := e0 (by omega); have y172 : (n3 + 1 + 1 + 1 + 1 + 1 = 1) = False := e0 (by omega); have y173 : (n3 + 1 + 1 + 1 + 1 + 1 = 2) = False := e0 (by omega); have y174 : (n3 + 1 + 1 + 1 + 1 + 1 = 3) = False := e0 (by omega); have y175 : (n3 + 1 + 1 + 1 + 1 + 1 = n1) = False := e0 (by omega); have y176 : (n3 + 1 + 1 + 1 + 1 + 1 = n1 + 1) = False := e0 (by omega); have y177 : (n3 + 1 + 1 + 1 + 1 + 1 = n1 + 1 + 1 + 1 + 1 + 1) = False := e0 (by omega); have y178 : (n3 + 1 + 1 + 1 + 1 + 1 = n3) = False := e0 (by omega); have y179 : (n3 + 1 + 1 + 1 + 1 + 1 = n3 + 1) = False := e0 (by omega); have y180 : (n3 + 1 + 1 + 1 + 1 + 1 = n3 + 1 + 1) = False := e0 (by omega); have y181 : (n3 + 1 + 1 + 1 + 1 + 1 = n3 + 1 + 1 + 1) = False := e0 (by omega); have y182 : (n3 + 1 + 1 + 1 + 1 + 1 = n3 + 1 + 1 + 1 + 1) = False := e0 (by omega)
        simp only [go_sem, ↓reduceIte, reduceCtorEq, Nat.reduceEqDiff, Nat.reduceLT, Nat.reduceLeDiff, Nat.reduceAdd, Nat.reduceSub, Nat.reduceMul, Nat.reduceGT, Int.reduceNeg, Int.reduceToNat, stgL_eq, envAt, F1, F2, F3, hrec, e2, e3, e4, e5, e6, e8, a8, a9, a10, y1, y2, y3, y4, y5, y6, y7, y8, y9, y10, y11, y12, y13, y14, y15, y16, y17, y18, y19, y20, y21, y22, y23, y24, y25, y26, y27, y28, y29, y30, y31, y32, y33, y34, y35, y36, y37, y38, y39, y40, y41, y42, y43, y44, y45, y46, y47, y48, y49, y50, y51, y52, y53, y54, y55, y56, y57, y58, y59, y60, y61, y62, y63, y64, y65, y66, y67, y68, y69, y70, y71, y72, y73, y74, y75, y76, y77, y78, y79, y80, y81, y82, y83, y84, y85, y86, y87, y88, y89, y90, y91, y92, y93, y94, y95, y96, y97, y98, y99, y100, y101, y102, y103, y104, y105, y106, y107, y108, y109, y110, y111, y112, y113, y114, y115, y116, y117, y118, y119, y120, y121, y122, y123, y124, y125, y126, y127, y128, y129, y130, y131, y132, y133, y134, y135, y136, y137, y138, y139, y140, y141, y142, y143, y144, y145, y146, y147, y148, y149, y150, y151, y152, y153, y154, y155, y156, y157, y158, y159, y160, y161, y162, y163, y164, y165, y166, y167, y168, y169, y170, y171, y172, y173, y174, y175, y176, y177, y178, y179, y180, y181, y182]
        refine wpA_sound _ _ _ _ ?_
        simp only [go_sem, ↓reduceIte, reduceCtorEq, Nat.reduceEqDiff, Nat.reduceLT, Nat.reduceLeDiff, Nat.reduceAdd, Nat.reduceSub, Nat.reduceMul, Nat.reduceGT, Int.reduceNeg, Int.reduceToNat, stgL_eq, F1, F2, F3, hrec, e2, e3, e4, e5, e6, e8, a8, a9, a10, y1, y2, y3, y4, y5, y6, y7, y8, y9, y10, y11, y12, y13, y14, y15, y16, y17, y18, y19, y20, y21, y22, y23, y24, y25, y26, y27, y28, y29, y30, y31, y32, y33, y34, y35, y36, y37, y38, y39, y40, y41, y42, y43, y44, y45, y46, y47, y48, y49, y50, y51, y52, y53, y54, y55, y56, y57, y58, y59, y60, y61, y62, y63, y64, y65, y66, y67, y68, y69, y70, y71, y72, y73, y74, y75, y76, y77, y78, y79, y80, y81, y82, y83, y84, y85, y86, y87, y88, y89, y90, y91, y92, y93, y94, y95, y96, y97, y98, y99, y100, y101, y102, y103, y104, y105, y106, y107, y108, y109, y110, y111, y112, y113, y114, y115, y116, y117, y118, y119, y120, y121, y122, y123, y124, y125, y126, y127, y128, y129, y130, y131, y132, y133, y134, y135, y136, y137, y138, y139, y140, y141, y142, y143, y144, y145, y146, y147, y148, y149, y150, y151, y152, y153, y154, y155, y156, y157, y158, y159, y160, y161, y162, y163, y164, y165, y166, y167, y168, y169, y170, y171, y172, y173, y174, y175, y176, y177, y178, y179, y180, y181, y182]
        refine ite_cases (fun herr => ?_) (fun herr => ?_)
        ·
          refine AWp.mono (Q := fun x _ s1 => x = .normal ∧ Bad n1 fs o3 n3 bz z.err s1) ?_ ?_
          · refine awp_plan ((.op 0 (.alt 1 (.op 2 (.op 3 (.op 4 .done))) (.alt 2 (.alt 1 (.op 3 (.op 4 .done)) (.alt 3 (.op 1 (.op 4 .done)) .dead)) .dead)))) [2, 3, 4] mix (by kernel_rfl) ?_
            simp only [go_sem, ↓reduceIte, reduceCtorEq, Nat.reduceEqDiff, Nat.reduceLT, Nat.reduceLeDiff, Nat.reduceAdd, Nat.reduceSub, Nat.reduceMul, Nat.reduceGT, Int.reduceNeg, Int.reduceToNat, F1, F2, F3, hrec, a8, a9, a10, y1, y2, y3, y4, y5, y6, y7, y8, y9, y10, y11, y12, y13, y14, y15, y16, y17, y18, y19, y20, y21, y22, y23, y24, y25, y26, y27, y28, y29, y30, y31, y32, y33, y34, y35, y36, y37, y38, y39, y40, y41, y42, y43, y44, y45, y46, y47, y48, y49, y50, y51, y52, y53, y54, y55, y56, y57, y58, y59, y60, y61, y62, y63, y64, y65, y66, y67, y68, y69, y70, y71, y72, y73, y74, y75, y76, y77, y78, y79, y80, y81, y82, y83, y84, y85, y86, y87, y88, y89, y90, y91, y92, y93, y94, y95, y96, y97, y98, y99, y100, y101, y102, y103, y104, y105, y106, y107, y108, y109, y110, y111, y112, y113, y114, y115, y116, y117, y118, y119, y120, y121, y122, y123, y124, y125, y126, y127, y128, y129, y130, y131, y132, y133, y134, y135, y136, y137, y138, y139, y140, y141, y142, y143, y144, y145, y146, y147, y148, y149, y150, y151, y152, y153, y154, y155, y156, y157, y158, y159, y160, y161, y162, y163, y164, y165, y166, y167, y168, y169, y170, y171, y172, y173, y174, y175, y176, y177, y178, y179, y180, y181, y182]
            repeat' (first | (with_reducible refine And.intro ?_ ?_) | ((with_reducible refine ite_cases ?_ ?_) <;> intro _))
            all_goals apply Bad.of
            all_goals first
              | ((repeat (refine (set_ne (by omega)).trans ?_)); first | exact St_set_self _ _ _ _ | rfl)
              | (simp only; omega)
          · rintro x e5 ⟨o5, n5⟩ ⟨rfl, hP⟩
            have hx5 := hP.nxt
            simp only at hx5
            refine ⟨hP.rcd, hx5, ⟨(put_ne (by omega)).trans hP.fl, (put_ne (by omega)).trans hP.fc, (put_ne (by omega)).trans hP.ft, (put_ne (by omega)).trans hP.hs⟩, .inr ⟨rfl, ⟨z, find_at hz hall (by simpa using herr), ?_, ?_, ?_⟩, put_self⟩⟩
            · obtain ⟨cell, h1, h2⟩ := hP.r1; exact ⟨cell, (put_ne (by omega)).trans h1, h2⟩
            · obtain ⟨cell, h1, h2⟩ := hP.r2; exact ⟨cell, (put_ne (by omega)).trans h1, h2⟩
            · obtain ⟨cell, h1, h2⟩ := hP.r3; exact ⟨cell, (put_ne (by omega)).trans h1, h2⟩
        · refine AWp.mono (Q := fun x _ s1 => x = .normal ∧ Aft n1 fs o3 n3 bz (items.take i ++ [z]) s1) ?_ ?_
          ·
            refine awp_wf fun hwf => ?_
            have hwn : ∀ k, n3 + 1 ≤ k → o3 k 0 = none := fun k hk => by
              have := hwf k 0 (by simp only; omega)
              simp only [St.set] at this
              (repeat rw [if_neg (by omega)] at this)
              exact this
            have w2 := hwn (n3 + 1) (by omega)
            have w3 := hwn (n3 + 1 + 1) (by omega)
            have w4 := hwn (n3 + 1 + 1 + 1) (by omega)
            have w5 := hwn (n3 + 1 + 1 + 1 + 1) (by omega)
            refine awp_plan ((.op 0 (.op 1 (.op 2 (.op 6 (.alt 3 (.alt 4 (.op 5 (.op 7 (.op 8 (.op 9 (.op 10 (.op 11 .done)))))) (.alt 5 (.alt 4 (.op 7 (.op 8 (.op 9 (.op 10 (.op 11 .done))))) (.alt 7 (.alt 4 (.op 8 (.op 9 (.op 10 (.op 11 .done)))) (.alt 8 (.op 4 (.op 9 (.op 10 (.op 11 .done)))) .dead)) .dead)) (.alt 7 (.alt 4 (.op 5 (.op 8 (.op 9 (.op 10 (.op 11 .done))))) (.alt 5 (.alt 4 (.op 8 (.op 9 (.op 10 (.op 11 .done)))) (.alt 8 (.op 4 (.op 9 (.op 10 (.op 11 .done)))) .dead)) (.alt 8 (.alt 4 (.op 5 (.op 9 (.op 10 (.op 11 .done)))) (.alt 5 (.op 4 (.op 9 (.op 10 (.op 11 .done)))) .dead)) .dead))) .dead))) (.alt 5 (.alt 3 (.alt 4 (.op 7 (.op 8 (.op 9 (.op 10 (.op 11 .done))))) (.alt 7 (.alt 4 (.op 8 (.op 9 (.op 10 (.op 11 .done)))) (.alt 8 (.op 4 (.op 9 (.op 10 (.op 11 .done)))) .dead)) .dead)) (.alt 7 (.alt 3 (.alt 4 (.op 8 (.op 9 (.op 10 (.op 11 .done)))) (.alt 8 (.op 4 (.op 9 (.op 10 (.op 11 .done)))) .dead)) (.alt 8 (.op 3 (.op 4 (.op 9 (.op 10 (.op 11 .done))))) .dead)) .dead)) (.alt 7 (.alt 3 (.alt 4 (.op 5 (.op 8 (.op 9 (.op 10 (.op 11 .done))))) (.alt 5 (.alt 4 (.op 8 (.op 9 (.op 10 (.op 11 .done)))) (.alt 8 (.op 4 (.op 9 (.op 10 (.op 11 .done)))) .dead)) (.alt 8 (.alt 4 (.op 5 (.op 9 (.op 10 (.op 11 .done)))) (.alt 5 (.op 4 (.op 9 (.op 10 (.op 11 .done)))) .dead)) .dead))) (.alt 5 (.alt 3 (.alt 4 (.op 8 (.op 9 (.op 10 (.op 11 .done)))) (.alt 8 (.op 4 (.op 9 (.op 10 (.op 11 .done)))) .dead)) (.alt 8 (.op 3 (.op 4 (.op 9 (.op 10 (.op 11 .done))))) .dead)) (.alt 8 (.alt 3 (.alt 4 (.op 5 (.op 9 (.op 10 (.op 11 .done)))) (.alt 5 (.op 4 (.op 9 (.op 10 (.op 11 .done)))) .dead)) (.alt 5 (.op 3 (.op 4 (.op 9 (.op 10 (.op 11 .done))))) .dead)) .dead))) .dead)))))))) [4, 9, 10, 11] mix (by kernel_rfl) ?_
            simp only [go_sem, ↓reduceIte, reduceCtorEq, Nat.reduceEqDiff, Nat.reduceLT, Nat.reduceLeDiff, Nat.reduceAdd, Nat.reduceSub, Nat.reduceMul, Nat.reduceGT, Int.reduceNeg, Int.reduceToNat, F1, F2, F3, hrec, e2, e3, e4, e5, e6, e8, a8, a9, a10, w2, w3, w4, w5, y1, y2, y3, y4, y5, y6, y7, y8, y9, y10, y11, y12, y13, y14, y15, y16, y17, y18, y19, y20, y21, y22, y23, y24, y25, y26, y27, y28, y29, y30, y31, y32, y33, y34, y35, y36, y37, y38, y39, y40, y41, y42, y43, y44, y45, y46, y47, y48, y49, y50, y51, y52, y53, y54, y55, y56, y57, y58, y59, y60, y61, y62, y63, y64, y65, y66, y67, y68, y69, y70, y71, y72, y73, y74, y75, y76, y77, y78, y79, y80, y81, y82, y83, y84, y85, y86, y87, y88, y89, y90, y91, y92, y93, y94, y95, y96, y97, y98, y99, y100, y101, y102, y103, y104, y105, y106, y107, y108, y109, y110, y111, y112, y113, y114, y115, y116, y117, y118, y119, y120, y121, y122, y123, y124, y125, y126, y127, y128, y129, y130, y131, y132, y133, y134, y135, y136, y137, y138, y139, y140, y141, y142, y143, y144, y145, y146, y147, y148, y149, y150, y151, y152, y153, y154, y155, y156, y157, y158, y159, y160, y161, y162, y163, y164, y165, y166, y167, y168, y169, y170, y171, y172, y173, y174, y175, y176, y177, y178, y179, y180, y181, y182]
            repeat' (first | (with_reducible refine And.intro ?_ ?_) | ((with_reducible refine ite_cases ?_ ?_) <;> intro _))
            all_goals first
              | omega
              | (refine keeps_set ?_; (repeat (refine (set_ne (by omega)).trans ?_)); exact hwn _ (by omega))
              | skip
            all_goals clear z1 z2 z3 z4 z5 z6 z7 z8 z9 z10 z11 z12 z13 z14 z15 z16 z17 z18 z19 z20 z21 z22 z23 z24 z25 z26 z27 z28 z29 z30 z31 z32 z33 z34 z35 z36 z37 z38 z39 z40 z41 z42 z43 z44 z45 z46 z47 z48 z49 z50 z51 z52 z53 z54 z55 z56 z57 z58 z59 z60 z61 z62 z63 z64 z65 z66 z67 z68 z69 z70 z71 z72 z73 z74 z75 z76 z77 z78 z79 z80 z81 z82 z83 z84 z85 z86 z87 z88 z89 z90 z91 z92 z93 z94 z95 z96 z97 z98 z99 z100 z101 z102 z103 z104 z105 z106 z107 z108 z109 z110 z111 z112 z113 z114 z115 z116 z117 z118 z119 z120 z121 z122 z123 z124 z125 z126 z127 z128 z129 z130 z131 z132 y1 y2 y3 y4 y5 y6 y7 y8 y9 y10 y11 y12 y13 y14 y15 y16 y17 y18 y19 y20 y21 y22 y23 y24 y25 y26 y27 y28 y29 y30 y31 y32 y33 y34 y35 y36 y37 y38 y39 y40 y41 y42 y43 y44 y45 y46 y47 y48 y49 y50 y51 y52 y53 y54 y55 y56 y57 y58 y59 y60 y61 y62 y63 y64 y65 y66 y67 y68 y69 y70 y71 y72 y73 y74 y75 y76 y77 y78 y79 y80 y81 y82 y83 y84 y85 y86 y87 y88 y89 y90 y91 y92 y93 y94 y95 y96 y97 y98 y99 y100 y101 y102 y103 y104 y105 y106 y107 y108 y109 y110 y111 y112 y113 y114 y115 y116 y117 y118 y119 y120 y121 y122 y123 y124 y125 y126 y127 y128 y129 y130 y131 y132 y133 y134 y135 y136 y137 y138 y139 y140 y141 y142 y143 y144 y145 y146 y147 y148 y149 y150 y151 y152 y153 y154 y155 y156 y157 y158 y159 y160 y161 y162 y163 y164 y165 y166 y167 y168 y169 y170 y171 y172 y173 y174 y175 y176 y177 y178 y179 y180 y181 y182
            all_goals apply Aft.more (n := (items.take i).length)
            all_goals first
              | ((repeat (refine (set_ne (by omega)).trans ?_)); first | exact St_set_self _ _ _ _ | rfl | exact F1 | exact F2 | exact F3 | exact hrec)
              | skip
            all_goals first
              | ((repeat (refine (set_ne (by omega)).trans ?_)); first | exact St_set_self _ _ _ _ | exact F1 | exact F2 | exact F3)
              | (simp only; omega)
              | omega
              | exact con_lit _
              | exact sta_lit _
              | (first | exact e7 | exact e9 | rfl)
          ·
            rintro x e5 ⟨o5, n5⟩ ⟨rfl, hP⟩
            have hx5 := hP.nxt
            simp only at hx5
            have he0 : z.err = 0 := by simpa using herr
            have hall' : ∀ y ∈ items.take (i + 1), y.err = 0 := fun y hy => by
              obtain ⟨h1, h2⟩ := List.getElem?_eq_some_iff.1 hz
              rw [List.take_succ_eq_append_getElem h1, h2] at hy
              rcases List.mem_append.1 hy with hy | hy
              · exact hall y hy
              · rw [List.mem_singleton.1 hy]; exact he0
            have hG : GoJ n1 items (i + 1) fs ⟨o5, n5⟩ := ⟨⟨hx.1, by simp only; omega⟩, by rw [hnextL]; exact hP.two, ⟨q1, hP.r1.trans F1⟩, ⟨q2, hP.r2.trans F2⟩, ⟨q3, hP.r3.trans F3⟩, hall'⟩
            refine ⟨hP.rcd, hx5, ⟨(put_ne (by omega)).trans hP.fl, (put_ne (by omega)).trans hP.fc, (put_ne (by omega)).trans hP.ft, (put_ne (by omega)).trans hP.hs⟩, .inl ⟨rfl, hG.same hn1 (Nat.le_refl _) fun f j h1 h2 h3 h4 h5 => put_ne (by omega), put_self⟩⟩
    · rintro fs o' nx' hfs ⟨hJ, hrec⟩
      refine .inl ⟨hrec, ?_⟩
      rw [hit] at hJ
      have hall := hJ.all
      have htw := hJ.two
      rw [List.take_length] at hall htw
      have hfind : items.find? (fun z => z.err != 0) = none := List.find?_eq_none.2 fun x hx => by simp [hall x hx]
      rw [hfind]
      obtain ⟨q1, F1⟩ := hJ.r1
      obtain ⟨q2, F2⟩ := hJ.r2
      obtain ⟨q3, F3⟩ := hJ.r3
      simp only at F1 F2 F3
      have hx := hJ.nxt
      simp only at hx
      have z1 : (1 = 2) = False := e0 (by omega); have z2 : (1 = 3) = False := e0 (by omega); have z3 : (1 = n1) = False := e0 (by omega); have z4 : (1 = n1 + 1) = False := e0 (by omega); have z5 : (1 = n1 + 1 + 1 + 1 + 1 + 1) = False := e0 (by omega); have z6 : (2 = 1) = False := e0 (by omega); have z7 : (2 = 3) = False := e0 (by omega); have z8 : (2 = n1) = False := e0 (by omega); have z9 : (2 = n1 + 1) = False := e0 (by omega); have z10 : (2 = n1 + 1 + 1 + 1 + 1 + 1) = False := e0 (by omega); have z11 : (3 = 1) = False := e0 (by omega); have z12 : (3 = 2) = False := e0 (by omega); have z13 : (3 = n1) = False := e0 (by omega); have z14 : (3 = n1 + 1) = False := e0 (by omega); have z15 : (3 = n1 + 1 + 1 + 1 + 1 + 1) = False := e0 (by omega); have z16 : (n1 = 1) = False := e0 (by omega); have z17 : (n1 = 2) = False := e0 (by omega); have z18 : (n1 = 3) = False := e0 (by omega); have z19 : (n1 = n1 + 1) = False := e0 (by omega); have z20 : (n1 = n1 + 1 + 1 + 1 + 1 + 1) = False := e0 (by omega); have z21 : (n1 + 1 = 1) = False := e0 (by omega); have z22 : (n1 + 1 = 2) = False := e0 (by omega); have z23 : (n1 + 1 = 3) = False := e0 (by omega); have z24 : (n1 + 1 = n1) = False := e0 (by omega); have z25 : (n1 + 1 = n1 + 1 + 1 + 1 + 1 + 1) = False := e0 (by omega); have z26 : (n1 + 1 + 1 + 1 + 1 + 1 = 1) = False := e0 (by omega); have z27 : (n1 + 1 + 1 + 1 + 1 + 1 = 2) = False := e0 (by omega); have z28 : (n1 + 1 + 1 + 1 + 1 + 1 = 3) = False := e0 (by omega); have z29 : (n1 + 1 + 1 + 1 + 1 + 1 = n1) = False := e0 (by omega); have z30 : (n1 + 1 + 1 + 1 + 1 + 1 = n1 + 1) = False := e0 (by omega)
      simp only [go_sem, ↓reduceIte, reduceCtorEq, Nat.reduceEqDiff, Nat.reduceLT, Nat.reduceLeDiff, Nat.reduceAdd, Nat.reduceSub, Nat.reduceMul, Nat.reduceGT, Int.reduceNeg, Int.reduceToNat]
      rcases htw with ⟨e1, ⟨u1, e2, e3⟩, ⟨u2, e4, e5⟩⟩ | ⟨g1, g2, u3, u4, hne, ⟨v1, v2, v3, v4⟩, ⟨u1, e2, e3⟩, ⟨u2, e4, e5⟩, ⟨e6, e7⟩, ⟨e8, e9⟩⟩
      · simp only at e2 e4
        refine awp_plan ((.op 0 (.alt 1 (.op 2 (.op 3 (.op 4 .done))) (.alt 2 (.op 1 (.op 3 (.op 4 .done))) .dead)))) [2, 3, 4] mix (by kernel_rfl) ?_
        simp only [go_sem, ↓reduceIte, reduceCtorEq, Nat.reduceEqDiff, Nat.reduceLT, Nat.reduceLeDiff, Nat.reduceAdd, Nat.reduceSub, Nat.reduceMul, Nat.reduceGT, Int.reduceNeg, Int.reduceToNat, F1, F2, F3, e2, e3, e4, e5, a8, a9, a10, z1, z2, z3, z4, z5, z6, z7, z8, z9, z10, z11, z12, z13, z14, z15, z16, z17, z18, z19, z20, z21, z22, z23, z24, z25, z26, z27, z28, z29, z30]
        rw [e1]
        refine ⟨?_, ?_⟩ <;> exact Fz_tup ⟨.nil _ _, .nil _ _, .v _, trivial⟩
      · simp only at v2 v4 e2 e4 e6 e8
        refine awp_plan ((.op 0 (.alt 1 (.op 2 (.op 3 (.op 4 .done))) (.alt 2 (.op 1 (.op 3 (.op 4 .done))) .dead)))) [2, 3, 4] mix (by kernel_rfl) ?_
        simp only [go_sem, ↓reduceIte, reduceCtorEq, Nat.reduceEqDiff, Nat.reduceLT, Nat.reduceLeDiff, Nat.reduceAdd, Nat.reduceSub, Nat.reduceMul, Nat.reduceGT, Int.reduceNeg, Int.reduceToNat, F1, F2, F3, e2, e3, e4, e5, a8, a9, a10, z1, z2, z3, z4, z5, z6, z7, z8, z9, z10, z11, z12, z13, z14, z15, z16, z17, z18, z19, z20, z21, z22, z23, z24, z25, z26, z27, z28, z29, z30]
        have hz1 : ∀ {st : S}, st.o g1 0 = o' g1 0 → st.o g2 0 = o' g2 0 → Fz st (.tup [.ms g1 0 7 0 items.length, .ms g2 0 4 0 items.length, .v (.int .i64 0)]) (.tup [slD 7 conC (items.map fun x => x.con), slD 4 staC (items.map fun x => x.st), .v (.int .i64 0)]) := fun {st} k1 k2 =>
          Fz_tup ⟨fz_ms (k1.trans e6) (by simp) pu_conC fun r c hr hc => e7 r c (by simpa using hr) hc, fz_ms (k2.trans e8) (by simp) pu_staC fun r c hr hc => e9 r c (by simpa using hr) hc, .v _, trivial⟩
        refine ⟨hz1 ?_ ?_, hz1 ?_ ?_⟩
        all_goals (dsimp only; (repeat (refine (set_ne (by omega)).trans ?_)); rfl)
    · rintro o' nx' ⟨⟨z, hz, ⟨c1, F1, G1⟩, ⟨c2, F2, G2⟩, ⟨c3, F3, G3⟩⟩, hrec⟩
      refine .inr ⟨_, hrec, ?_⟩
      simp only at F1 F2 F3
      rw [hz]
      refine wpA_sound _ _ _ _ ?_
      have z1 : (1 = 2) = False := e0 (by omega); have z2 : (1 = 3) = False := e0 (by omega); have z3 : (1 = n1 + 1 + 1 + 1 + 1 + 1) = False := e0 (by omega); have z4 : (2 = 1) = False := e0 (by omega); have z5 : (2 = 3) = False := e0 (by omega); have z6 : (2 = n1 + 1 + 1 + 1 + 1 + 1) = False := e0 (by omega); have z7 : (3 = 1) = False := e0 (by omega); have z8 : (3 = 2) = False := e0 (by omega); have z9 : (3 = n1 + 1 + 1 + 1 + 1 + 1) = False := e0 (by omega); have z10 : (n1 + 1 + 1 + 1 + 1 + 1 = 1) = False := e0 (by omega); have z11 : (n1 + 1 + 1 + 1 + 1 + 1 = 2) = False := e0 (by omega); have z12 : (n1 + 1 + 1 + 1 + 1 + 1 = 3) = False := e0 (by omega)
      simp only [go_sem, ↓reduceIte, reduceCtorEq, Nat.reduceEqDiff, Nat.reduceLT, Nat.reduceLeDiff, Nat.reduceAdd, Nat.reduceSub, Nat.reduceMul, Nat.reduceGT, Int.reduceNeg, Int.reduceToNat, F1, F2, F3, G1, G2, G3, a8, a9, a10, z1, z2, z3, z4, z5, z6, z7, z8, z9, z10, z11, z12]
      exact Fz_tup ⟨.nil _ _, .nil _ _, .v _, trivial⟩
end Tryz
end Go.Proofs
end
