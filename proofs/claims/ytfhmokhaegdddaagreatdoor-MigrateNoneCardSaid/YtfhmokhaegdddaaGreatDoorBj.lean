/-
  Parts of an abstract machine over the model, of the program's data and of what its functions compute: the texts AbsV AbsX F67 LawN F68, merged.
-/
import Derived.Test.YtfhmokhaegdddaaGreatDoorBi
set_option linter.unusedSimpArgs false
set_option linter.unusedVariables false
section
namespace Go.Abs
open Go
theorem awp_weak1 {M : Ctx} {x : Code} {Q : Exit → Env → S → Prop} {e : Env} {s : S} {t : Nat} {d' : D} (hw : ∀ (c : Cfg) (v : Value), c.Rep (e t) v → c.Rep d' v) (h : AWp M x Q (upd e t d') s) : AWp M x Q e s := by
  intro cf a m hE hok
  refine h cf a m ⟨hE.defers, hE.size, fun u => ?_, hE.glob⟩ hok
  show cf.Rep (if u = t then d' else e u) _
  by_cases hu : u = t
  · subst hu; rw [if_pos rfl]; exact hw _ _ (hE.slot u)
  · rw [if_neg hu]; exact hE.slot u
/-- A list that the code has made is frozen: from here on it is like one that was handed in. -/
theorem awp_out {α : Type} [Inhabited α] {f : α → Nat → D} {w n0 : Nat} {ty : TypeId} {L : List α} {M : Ctx} {x : Code} {Q : Exit → Env → S → Prop} {e : Env} {o : St} {nx t : Nat} (hO : OutL f w ty n0 ⟨o, nx⟩ (e t) L) (h : ∀ o' : St, (∀ g i, g < n0 → o' g i = o g i) → AWp M x Q (upd e t (slD w f L)) ⟨o', nx⟩) : AWp M x Q e ⟨o, nx⟩ := by
  rcases hO with ⟨rfl, hd⟩ | ⟨g, cell, hd, h2, h3, h4, h5⟩
  · exact awp_weak1 (d' := slD w f []) (by rw [hd]; exact wk_nil _ _) (h o fun _ _ _ => rfl)
  · exact awp_freeze hd h4 h5 (h (St.set o g 0 none) fun g' i hg => by simp only [St.set]; rw [if_neg (by omega)])
/-- What can be told of a value otherwise. -/
def Wkd (d d' : D) : Prop := ∀ (K : Nat → Prop) (β : Pl) (W : World) (v : Value), Rep K β W d v → Rep K β W d' v
theorem Wkd.refl (d : D) : Wkd d d := fun _ _ _ _ h => h
theorem Wkd.nil (k : Nat) (row : Nat → Nat → D) : Wkd (.v (.slice none 0 0)) (.sl k 0 row) := fun _ _ _ _ h => by cases h; exact .slnil k row
theorem cells_weak {s : S} {f k n : Nat} {ty : TypeId} {cell cell' : Nat → Nat → D} (hB : s.o f 0 = some (.blk k n ty cell)) (hc : ∀ r c, r < n → c < k → Wkd (cell r c) (cell' r c)) (cf : Cfg) (h : cf.Ok s) : cf.Ok (s.put f 0 (.blk k n ty cell')) where
  kb := h.kb
  βb := h.βb
  fresh := h.fresh
  obj f1 i1 B1 hB1 := by
    change (if f1 = f ∧ i1 = 0 then some (SObj.blk k n ty cell') else s.o f1 i1) = some B1 at hB1
    split at hB1
    · rename_i hh
      obtain ⟨rfl, rfl⟩ := hh
      cases hB1
      obtain ⟨h1, h2⟩ := h.obj _ _ _ hB
      refine ⟨h1, ?_⟩
      rcases h2 with ⟨b, cp, g1, g2, g3, arr, g4, g5, g6⟩ | ⟨g1, g2⟩
      · exact .inl ⟨b, cp, g1, g2, g3, arr, g4, g5, fun r c hr hc' => ⟨(g6 r c hr hc').1, hc r c hr hc' _ _ _ _ (g6 r c hr hc').2⟩⟩
      · exact .inr ⟨g1, g2⟩
    · exact h.obj f1 i1 B1 hB1
  inj f1 i1 f2 i2 B1 B2 b cp1 cp2 h1 h2 h3 h4 := by
    have hl : ∀ f' i' B0, St.set s.o f 0 (some (.blk k n ty cell')) f' i' = some B0 → ∃ B1, s.o f' i' = some B1 := by
      intro f' i' B0 hh
      change (if f' = f ∧ i' = 0 then some (SObj.blk k n ty cell') else s.o f' i') = some B0 at hh
      split at hh
      · rename_i e; obtain ⟨rfl, rfl⟩ := e; exact ⟨_, hB⟩
      · exact ⟨B0, hh⟩
    obtain ⟨B3, h5⟩ := hl _ _ _ h1
    obtain ⟨B4, h6⟩ := hl _ _ _ h2
    exact h.inj _ _ _ _ _ _ _ _ _ h5 h6 h3 h4
theorem awp_cellsW {M : Ctx} {x : Code} {Q : Exit → Env → S → Prop} {e : Env} {o : St} {nx f k n : Nat} {ty : TypeId} {cell cell' : Nat → Nat → D} (hB : o f 0 = some (.blk k n ty cell)) (hc : ∀ r c, r < n → c < k → Wkd (cell r c) (cell' r c))
    (h : AWp M x Q e ⟨St.set o f 0 (some (.blk k n ty cell')), nx⟩) : AWp M x Q e ⟨o, nx⟩ :=
  fun cf a m hE hok => h cf a m hE (cells_weak (s := ⟨o, nx⟩) hB hc cf hok)
theorem acall_cellsW {M : Ctx} {g : FuncId} {args : List D} {K : D → S → Prop} {o : St} {nx f k n : Nat} {ty : TypeId} {cell cell' : Nat → Nat → D} (hB : o f 0 = some (.blk k n ty cell)) (hc : ∀ r c, r < n → c < k → Wkd (cell r c) (cell' r c))
    (h : ACall M g args ⟨St.set o f 0 (some (.blk k n ty cell')), nx⟩ K) : ACall M g args ⟨o, nx⟩ K :=
  fun cf vals hok hg hl hr => h cf vals (cells_weak (s := ⟨o, nx⟩) hB hc cf hok) hg hl hr
end Go.Abs
end
section
/-
  An abstract machine over the model, part 20: an owned slice that lies in another object's cells is given away there.
-/
namespace Go.Abs
open Go
theorem cells_in {c c1 : Cfg} {s s1 : S} {f k n : Nat} {ty : TypeId} {cell cell' : Nat → Nat → D} (hW : c1.W = c.W) (hx : Ext c c1) (hok : c.Ok s) (hok1 : c1.Ok s1) (hA : s.o f 0 = some (.blk k n ty cell)) (hA1 : s1.o f 0 = some (.blk k n ty cell))
    (hcell : ∀ r j, r < n → j < k → ∀ v, c.Rep (cell r j) v → c1.Rep (cell' r j) v) : c1.Ok (s1.put f 0 (.blk k n ty cell')) where
  kb := hok1.kb
  βb := hok1.βb
  fresh := hok1.fresh
  obj f1 i1 B1 hB1 := by
    change (if f1 = f ∧ i1 = 0 then some (SObj.blk k n ty cell') else s1.o f1 i1) = some B1 at hB1
    split at hB1
    · rename_i hh
      obtain ⟨rfl, rfl⟩ := hh
      cases hB1
      obtain ⟨h1, h2⟩ := hok1.obj _ _ _ hA1
      obtain ⟨_, h3⟩ := hok.obj _ _ _ hA
      refine ⟨h1, ?_⟩
      rcases h2 with ⟨b, cp, g1, g2, g3, arr, g4, g5, g6⟩ | ⟨g1, g2⟩
      · refine .inl ⟨b, cp, g1, g2, g3, arr, g4, g5, fun r j hr hj => ⟨(g6 r j hr hj).1, ?_⟩⟩
        rcases h3 with ⟨b', cp', k1, k2, k3, arr', k4, k5, k6⟩ | ⟨k1, k2⟩
        · have := hx.β _ _ _ k1
          rw [g1] at this
          cases this
          rw [hW, k4] at g4
          cases g4
          exact hcell r j hr hj _ (k6 r j hr hj).2
        · have hn : n = 0 := k2
          omega
      · exact .inr ⟨g1, g2⟩
    · exact hok1.obj f1 i1 B1 hB1
  inj f1 i1 f2 i2 B1 B2 b cp1 cp2 h1 h2 h3 h4 := by
    have hl : ∀ f' i' B0, St.set s1.o f 0 (some (.blk k n ty cell')) f' i' = some B0 → ∃ B1, s1.o f' i' = some B1 := by
      intro f' i' B0 hh
      change (if f' = f ∧ i' = 0 then some (SObj.blk k n ty cell') else s1.o f' i') = some B0 at hh
      split at hh
      · rename_i e; obtain ⟨rfl, rfl⟩ := e; exact ⟨_, hA1⟩
      · exact ⟨B0, hh⟩
    obtain ⟨B3, h5⟩ := hl _ _ _ h1
    obtain ⟨B4, h6⟩ := hl _ _ _ h2
    exact hok1.inj _ _ _ _ _ _ _ _ _ h5 h6 h3 h4
theorem awp_freeze_in {M : Ctx} {x : Code} {Q : Exit → Env → S → Prop} {e : Env} {o : St} {nx f k n fa ka na : Nat} {ty tya : TypeId} {cell cell' ca ca' : Nat → Nat → D} (hB : o f 0 = some (.blk k n ty cell)) (hc : ∀ r c, r < n → c < k → cell r c = cell' r c) (hne : fa ≠ f) (hA : o fa 0 = some (.blk ka na tya ca))
    (hca : ∀ r c, r < na → c < ka → ca' r c = ca r c ∨ (ca r c = .ms f 0 k 0 n ∧ ca' r c = .sl k n cell')) (h : AWp M x Q e ⟨St.set (St.set o f 0 none) fa 0 (some (.blk ka na tya ca')), nx⟩) : AWp M x Q e ⟨o, nx⟩ := by
  intro cf a m hE hok
  obtain ⟨c1, hW, hx, hok1, hr⟩ := freeze_cfg (s := ⟨o, nx⟩) hok hB hc
  have hA1 : (S.kill ⟨o, nx⟩ f 0).o fa 0 = some (.blk ka na tya ca) := by
    show (if fa = f ∧ 0 = 0 then none else o fa 0) = _
    rw [if_neg (by omega)]; exact hA
  have hok2 := cells_in (cell' := ca') hW hx hok hok1 hA hA1 fun r j hr' hj v hv => by
    rcases hca r j hr' hj with h1 | ⟨h1, h2⟩
    · rw [h1]; exact hx.rep hv
    · rw [h2]; rw [h1] at hv; exact hr v hv
  have hE1 : EnvRel M c1 e a := ⟨hE.defers.ext hx, hE.size, fun u => hx.rep (hE.slot u), hE.glob.ext hx⟩
  have := h c1 a m hE1 hok2
  rw [hW] at this
  refine wpIn_mono this ?_
  rintro ex a' W' ⟨cf', e', s', g1, g2, g3, g4, g5⟩
  exact ⟨cf', e', s', g1, hx.trans g2, g3, g4, g5⟩
/-- The owned slice is given away within a value's parts. -/
inductive Given (f k n : Nat) (cell : Nat → Nat → D) : D → D → Prop
  | same (d : D) : Given f k n cell d d
  | hit : Given f k n cell (.ms f 0 k 0 n) (.sl k n cell)
  | nil (w : Nat) (row : Nat → Nat → D) : Given f k n cell (.v (.slice none 0 0)) (.sl w 0 row)
  | agg (cs ds : List D) (hl : cs.length = ds.length) (h : ∀ (i : Nat) (d d' : D), cs[i]? = some d → ds[i]? = some d' → Given f k n cell d d') : Given f k n cell (.agg cs) (.agg ds)
theorem Given.rep {f k n : Nat} {cell : Nat → Nat → D} {c c1 : Cfg} (hx : Ext c c1) (hr : ∀ v, c.Rep (.ms f 0 k 0 n) v → c1.Rep (.sl k n cell) v) {d d' : D} (h : Given f k n cell d d') : ∀ v, c.Rep d v → c1.Rep d' v := by
  induction h with
  | same d => exact fun v hv => hx.rep hv
  | hit => exact hr
  | nil w row => exact fun v hv => by cases hv; exact .slnil w row
  | agg cs ds hl h ih =>
    intro v hv
    cases hv with
    | agg _ xs hl' ho' hr' =>
      refine .agg _ xs (hl'.trans hl) ho' fun i d' hd' => ?_
      have hi : i < cs.length := by
        rw [hl]
        rcases Nat.lt_or_ge i ds.length with h | h
        · exact h
        · rw [List.getElem?_eq_none h] at hd'; cases hd'
      exact ih i _ d' (List.getElem?_eq_getElem hi) hd' _ (hr' i _ (List.getElem?_eq_getElem hi))
def GivenL (f k n : Nat) (cell : Nat → Nat → D) : List D → List D → Prop
  | [], [] => True
  | d :: ds, d' :: ds' => Given f k n cell d d' ∧ GivenL f k n cell ds ds'
  | _, _ => False
theorem GivenL.len {f k n : Nat} {cell : Nat → Nat → D} : ∀ {ds ds' : List D}, GivenL f k n cell ds ds' → ds.length = ds'.length
  | [], [], _ => rfl
  | d :: ds, d' :: ds', h => by simp [GivenL.len h.2]
theorem GivenL.get {f k n : Nat} {cell : Nat → Nat → D} : ∀ {ds ds' : List D}, GivenL f k n cell ds ds' → ∀ (i : Nat) (d d' : D), ds[i]? = some d → ds'[i]? = some d' → Given f k n cell d d'
  | d :: ds, d' :: ds', h, 0, x, y, hx, hy => by simp at hx hy; subst hx; subst hy; exact h.1
  | d :: ds, d' :: ds', h, i + 1, x, y, hx, hy => GivenL.get h.2 i x y (by simpa using hx) (by simpa using hy)
theorem Given_agg {f k n : Nat} {cell : Nat → Nat → D} {cs ds : List D} (h : GivenL f k n cell cs ds) : Given f k n cell (.agg cs) (.agg ds) := .agg cs ds h.len h.get
theorem acall_given {M : Ctx} {g : FuncId} {args args' : List D} {s : S} {K : D → S → Prop} {f k n : Nat} {ty : TypeId} {cell cell' : Nat → Nat → D} (hB : s.o f 0 = some (.blk k n ty cell)) (hc : ∀ r c, r < n → c < k → cell r c = cell' r c)
    (ha : GivenL f k n cell' args args') (h : ACall M g args' (s.kill f 0) K) : ACall M g args s K := by
  intro c vals hok hglob hlen hrep
  obtain ⟨c1, hW, hx, hok1, hr⟩ := freeze_cfg hok hB hc
  have h2 : Calls M.P g vals.toArray c1.W _ := h c1 vals hok1 (hglob.ext hx) (by rw [hlen, ha.len]) fun i d' hd' => by
    have hi : i < args.length := by
      rw [ha.len]
      rcases Nat.lt_or_ge i args'.length with h | h
      · exact h
      · rw [List.getElem?_eq_none h] at hd'; cases hd'
    exact (ha.get i _ d' (List.getElem?_eq_getElem hi) hd').rep hx hr _ (hrep i _ (List.getElem?_eq_getElem hi))
  rw [hW] at h2
  refine h2.mono ?_
  rintro x W' ⟨c', v, d, s', g1, g2, g3, g4, g5, g6⟩
  exact ⟨c', v, d, s', g1, g2, hx.trans g3, g4, g5, g6⟩
end Go.Abs
end
section
namespace Es
/-- What the head of the statements on migration looks at. -/
def mgCl : Clause := ⟨1, 0, 0, 2, [], 5, 0, false, false, -1, -1, ⟨0, 1⟩, -1, -1, false⟩
def mgC : Contract := ⟨1, [0], [], [⟨1, 0, 0, -1, -1, ⟨0, 1⟩⟩], [mgCl], 9, []⟩
def mgS : State := ⟨2, [0], [false], [⟨1, 3, 1, 0, false⟩]⟩
def zeroCl : Clause := ⟨0, 0, 0, 0, [], 0, 0, false, false, 0, 0, ⟨0, 0⟩, 0, 0, false⟩
def afterA (p : Patch) : Mark := if !((migrate mgC p mgS).2 == 0) || (len (migrate mgC p mgS).1.marks == 0) then ⟨-1, 0, 0, 0, false⟩ else at_ (migrate mgC p mgS).1.marks 0
theorem mgC_fits : Fits mgC := ⟨by decide, by decide, by decide, by decide, by decide⟩
theorem mgS_fits : SFits mgS := ⟨by decide, by decide, by decide⟩
def mgP1 : Patch := ⟨5, [0], zeroCl, 8⟩
def mgP2 : Patch := ⟨5, [0], zeroCl, 1⟩
def mgP3 : Patch := ⟨2, [0], { mgCl with need := 1 }, 0⟩
def mgP4 : Patch := ⟨2, [0], { mgCl with kind := 3, need := 1, after := 4 }, 0⟩
def mgP5 : Patch := ⟨3, [0], zeroCl, 0⟩
theorem mg_1 : afterA mgP1 = ⟨1, 6, 1, 0, false⟩ := by rfl
theorem mg_2 : afterA mgP2 = ⟨1, 1, 1, 0, false⟩ := by rfl
theorem mg_3 : afterA mgP3 = ⟨3, 0, 1, 0, false⟩ := by rfl
theorem mg_4 : afterA mgP4 = ⟨1, 4, 0, 0, false⟩ := by rfl
theorem mg_5 : afterA mgP5 = ⟨5, 0, 1, 0, false⟩ := by rfl
def mgL : List Amend := [⟨1, 2, 0, ⟨5, [0], zeroCl, 7⟩⟩]
def mgD : Contract := { mgC with clauses := [{ mgCl with after := 7 }] }
def mgT0 : State := ⟨0, [0], [false], [⟨1, 5, 0, 0, false⟩]⟩
def mgT1 : State := ⟨1, [0], [false], [⟨1, 4, 0, 0, false⟩]⟩
def mgT2 : State := ⟨1, [0], [false], [⟨1, 4, 1, 0, false⟩]⟩
def mgT3 : State := ⟨2, [0], [false], [⟨1, 5, 1, 0, false⟩]⟩
theorem mg_run : runG mgC mgL 0 [-1, 0, -1] = ([mgC, mgC, mgC, mgD], [mgT0, mgT1, mgT2, mgT3], 0) := by rfl
theorem mg_l1 : len [mgC, mgC, mgC, mgD] = 4 := rfl
theorem mg_l2 : len [mgT0, mgT1, mgT2, mgT3] = 4 := rfl
theorem mg_a2 : at_ [mgC, mgC, mgC, mgD] 2 = mgC := rfl
theorem mg_a3 : at_ [mgC, mgC, mgC, mgD] 3 = mgD := rfl
theorem mg_s3 : at_ [mgT0, mgT1, mgT2, mgT3] 3 = mgT3 := rfl
end Es
namespace Go.Proofs
open Go Go.Abs
set_option linter.unusedSimpArgs false
set_option linter.unusedVariables false
set_option maxRecDepth 10000
namespace Tryz
theorem msample_spec : APure M 22 [] (.tup [conD Es.mgC, staD Es.mgS]) := by
  refine pure_of gpu func22 rfl results22 ntmps22 (by simp) trivial ?_
  intro b
  simp only [go_sem, ↓reduceIte, reduceCtorEq, Nat.reduceEqDiff, Nat.reduceLT, Nat.reduceLeDiff, Nat.reduceAdd, Nat.reduceSub, Nat.reduceMul, Nat.reduceGT, Int.reduceNeg, Int.reduceToNat]
  refine Fz_tup ⟨Fz_agg ⟨.v _, .ms _ _ _ _ _ _ _ _ _ rfl (by decide) ?_, .nil _ _, .ms _ _ _ _ _ _ _ _ _ rfl (by decide) ?_, .ms _ _ _ _ _ _ _ _ _ rfl (by decide) ?_, .v _, .nil _ _, trivial⟩, Fz_agg ⟨.v _, .ms _ _ _ _ _ _ _ _ _ rfl (by decide) ?_, .ms _ _ _ _ _ _ _ _ _ rfl (by decide) ?_, .ms _ _ _ _ _ _ _ _ _ rfl (by decide) ?_, trivial⟩, trivial⟩
  all_goals
    intro r j hr hj
    obtain rfl : r = 0 := by omega
  · obtain rfl : j = 0 := by omega
    exact .v _
  · rcases (show j = 0 ∨ j = 1 ∨ j = 2 ∨ j = 3 ∨ j = 4 ∨ j = 5 ∨ j = 6 by omega) with rfl | rfl | rfl | rfl | rfl | rfl | rfl <;> exact .v _
  · rcases (show j = 0 ∨ j = 1 ∨ j = 2 ∨ j = 3 ∨ j = 4 ∨ j = 5 ∨ j = 6 ∨ j = 7 ∨ j = 8 ∨ j = 9 ∨ j = 10 ∨ j = 11 ∨ j = 12 ∨ j = 13 ∨ j = 14 ∨ j = 15 by omega) with rfl | rfl | rfl | rfl | rfl | rfl | rfl | rfl | rfl | rfl | rfl | rfl | rfl | rfl | rfl | rfl <;> first | exact .v _ | exact .nil _ _
  · obtain rfl : j = 0 := by omega
    exact .v _
  · obtain rfl : j = 0 := by omega
    exact .v _
  · rcases (show j = 0 ∨ j = 1 ∨ j = 2 ∨ j = 3 ∨ j = 4 by omega) with rfl | rfl | rfl | rfl | rfl <;> exact .v _
theorem after_spec (p : Es.Patch) : APure M 23 [patD p] (mrkD (Es.afterA p)) := by
  refine pure_of gpu func23 rfl results23 ntmps23 (by simp) ⟨pu_patD _, trivial⟩ ?_
  intro b
  simp only [go_sem, ↓reduceIte, reduceCtorEq, Nat.reduceEqDiff, Nat.reduceLT, Nat.reduceLeDiff, Nat.reduceAdd, Nat.reduceSub, Nat.reduceMul, Nat.reduceGT, Int.reduceNeg, Int.reduceToNat]
  refine call_at M_P M_G msample_spec ?_
  simp only [go_sem, ↓reduceIte, reduceCtorEq, Nat.reduceEqDiff, Nat.reduceLT, Nat.reduceLeDiff, Nat.reduceAdd, Nat.reduceSub, Nat.reduceMul, Nat.reduceGT, Int.reduceNeg, Int.reduceToNat]
  refine call_at M_P M_G (migrate_spec Es.mgC p Es.mgS Es.mgC_fits Es.mgS_fits) ?_
  simp only [go_sem, ↓reduceIte, reduceCtorEq, Nat.reduceEqDiff, Nat.reduceLT, Nat.reduceLeDiff, Nat.reduceAdd, Nat.reduceSub, Nat.reduceMul, Nat.reduceGT, Int.reduceNeg, Int.reduceToNat]
  refine ite_cases (fun he => ?_) (fun he => ?_)
  · refine ite_cases (fun hl => ?_) (fun hl => ?_)
    · rw [show Es.afterA p = ⟨-1, 0, 0, 0, false⟩ by unfold Es.afterA; rw [if_pos (by simp [hl])]]
      exact (pu_mrkD _).fz
    · have hl' : 0 < Es.len (Es.migrate Es.mgC p Es.mgS).1.marks := by
        simp only [Es.len] at hl ⊢
        simp only [beq_iff_eq] at hl
        omega
      rw [show Es.afterA p = Es.at_ (Es.migrate Es.mgC p Es.mgS).1.marks 0 by unfold Es.afterA; rw [if_neg (by simp_all)]]
      exact ⟨⟨by omega, hl'⟩, (pu_mrkD _).fz⟩
  · rw [show Es.afterA p = ⟨-1, 0, 0, 0, false⟩ by unfold Es.afterA; rw [if_pos (by simp_all)]]
    exact (pu_mrkD _).fz
theorem after_at {X : D → Value → Prop} {N b : Nat} {r : Option Nat} {s : S} {K : D → S → Prop} {d : D} (p : Es.Patch) (hz : Fz s d (patD p)) (hk : K (mrkD (Es.afterA p)) s) : ACall { P := prog, G := gl, X := X, N := N, r := r, b := b } 23 [d] s K :=
  lend_at M_P M_G (after_spec p) gpu (.agg _ fun d hd => by
    simp only [List.mem_cons, List.not_mem_nil, or_false] at hd
    rcases hd with rfl | rfl | rfl | rfl | rfl <;> exact .v _) ⟨hz, trivial⟩ hk
theorem one_int {s : S} {g : Nat} {ty : TypeId} {cell : Nat → Nat → D} (x : Int) (hB : s.o g 0 = some (.blk 1 1 ty cell)) (hc : cell 0 0 = .v (.int .i64 x)) : Fz s (.ms g 0 1 0 1) (slD 1 intC [x]) :=
  fz_ms (l := [x]) hB rfl pu_intC fun r c hr hc' => by
    obtain rfl : r = 0 := by simpa using hr
    obtain rfl : c = 0 := by omega
    exact hc
def HdR (e : Env) (st : S) : Prop := e 1 = .mp 0 0 7 0 0 ∧ ∃ a b, (a = 2 ∧ b = 3 ∨ a = 3 ∧ b = 2) ∧ st.nx = 4 ∧ e 3 = .mp a 0 16 0 0 ∧ e 4 = .mp b 0 16 0 0 ∧
  st.o a 0 = some (.blk 16 1 32 (rowOf [.v (.int .i64 1), .v (.int .i64 0), .v (.int .i64 0), .v (.int .i64 2), slD 2 condC [], .v (.int .i64 5), .v (.int .i64 0), .v (.bool false), .v (.bool false), .v (.int .i64 (-1)), .v (.int .i64 (-1)), .v (.int .i64 0), .v (.int .i64 1), .v (.int .i64 (-1)), .v (.int .i64 (-1)), .v (.bool false)])) ∧
  st.o b 0 = some (.blk 16 1 32 (rowOf [.v (.int .i64 1), .v (.int .i64 0), .v (.int .i64 0), .v (.int .i64 2), slD 2 condC [], .v (.int .i64 5), .v (.int .i64 0), .v (.bool false), .v (.bool false), .v (.int .i64 (-1)), .v (.int .i64 (-1)), .v (.int .i64 0), .v (.int .i64 1), .v (.int .i64 (-1)), .v (.int .i64 (-1)), .v (.bool false)])) ∧
  st.o 0 0 = some (.blk 7 1 27 (rowOf [.v (.int .i64 Es.mgC.parties), slD 1 intC Es.mgC.holders, slD 5 untC Es.mgC.units, slD 7 actC Es.mgC.acts, slD 16 clsC Es.mgC.clauses, .v (.int .i64 Es.mgC.days), slD 1 intC Es.mgC.off]))
theorem head27_spec : APure M 8 [] (.v (.bool true)) := by
  refine apure_of (fun x h => by cases h) gpu (acall_of func8 rfl results8 ntmps8 (by simp) fun b => ?_)
  refine awp_seq (wpA_sound _ _ _ _ ?_)
  simp only [go_sem, ↓reduceIte, reduceCtorEq, Nat.reduceEqDiff, Nat.reduceLT, Nat.reduceLeDiff, Nat.reduceAdd, Nat.reduceSub, Nat.reduceMul, Nat.reduceGT, Int.reduceNeg, Int.reduceToNat]
  refine awp_seq (wpA_sound _ _ _ _ ?_)
  simp only [go_sem, ↓reduceIte, reduceCtorEq, Nat.reduceEqDiff, Nat.reduceLT, Nat.reduceLeDiff, Nat.reduceAdd, Nat.reduceSub, Nat.reduceMul, Nat.reduceGT, Int.reduceNeg, Int.reduceToNat]
  refine call_at M_P M_G msample_spec ?_
  simp only [go_sem, ↓reduceIte, reduceCtorEq, Nat.reduceEqDiff, Nat.reduceLT, Nat.reduceLeDiff, Nat.reduceAdd, Nat.reduceSub, Nat.reduceMul, Nat.reduceGT, Int.reduceNeg, Int.reduceToNat]
  refine awp_seq ?_
  refine AWp.mono (Q := fun x e1 s1 => x = .normal ∧ HdR e1 s1) ?_ ?_
  · refine awp_wf fun hwf => ?_
    simp only at hwf
    have w2 := hwf 2 0 (by omega)
    have w3 := hwf 3 0 (by omega)
    refine awp_plan ((.op 0 (.op 1 (.op 2 (.op 3 (.op 4 (.alt 5 (.op 6 (.alt 7 (.alt 8 (.op 9 (.op 10 (.op 11 .done))) (.alt 9 (.op 8 (.op 10 (.op 11 .done))) .dead)) (.alt 8 (.alt 7 (.op 9 (.op 10 (.op 11 .done))) (.alt 9 (.alt 7 (.op 10 (.op 11 .done)) (.alt 10 (.op 7 (.op 11 .done)) .dead)) .dead)) (.alt 9 (.alt 7 (.op 8 (.op 10 (.op 11 .done))) (.alt 8 (.alt 7 (.op 10 (.op 11 .done)) (.alt 10 (.op 7 (.op 11 .done)) .dead)) .dead)) .dead)))) (.alt 8 (.alt 5 (.op 6 (.alt 7 (.op 9 (.op 10 (.op 11 .done))) (.alt 9 (.alt 7 (.op 10 (.op 11 .done)) (.alt 10 (.op 7 (.op 11 .done)) .dead)) .dead))) (.alt 9 (.alt 5 (.op 6 (.alt 7 (.op 10 (.op 11 .done)) (.alt 10 (.op 7 (.op 11 .done)) .dead))) (.alt 10 (.op 5 (.op 6 (.op 7 (.op 11 .done)))) .dead)) .dead)) (.alt 9 (.alt 5 (.op 6 (.alt 7 (.op 8 (.op 10 (.op 11 .done))) (.alt 8 (.alt 7 (.op 10 (.op 11 .done)) (.alt 10 (.op 7 (.op 11 .done)) .dead)) .dead))) (.alt 8 (.alt 5 (.op 6 (.alt 7 (.op 10 (.op 11 .done)) (.alt 10 (.op 7 (.op 11 .done)) .dead))) (.alt 10 (.op 5 (.op 6 (.op 7 (.op 11 .done)))) .dead)) .dead)) .dead))))))))) [10, 11] mix (by kernel_rfl) ?_
    simp only [go_sem, ↓reduceIte, reduceCtorEq, Nat.reduceEqDiff, Nat.reduceLT, Nat.reduceLeDiff, Nat.reduceAdd, Nat.reduceSub, Nat.reduceMul, Nat.reduceGT, Int.reduceNeg, Int.reduceToNat, w2, w3]
    repeat' (first | (with_reducible refine And.intro ?_ ?_) | ((with_reducible refine ite_cases ?_ ?_) <;> intro _))
    all_goals first
      | decide
      | (refine keeps_set ?_; (repeat (refine (set_ne (by omega)).trans ?_)); rfl)
      | (refine ⟨rfl, 2, 3, .inl ⟨rfl, rfl⟩, rfl, rfl, rfl, ?_, ?_, ?_⟩ <;> rfl)
      | (refine ⟨rfl, 3, 2, .inr ⟨rfl, rfl⟩, rfl, rfl, rfl, ?_, ?_, ?_⟩ <;> rfl)
      | skip
  · rintro x e ⟨o, nx⟩ ⟨rfl, a1, a, b', hab, hnx, a3, a4, ga, gb, g0⟩
    simp only at hnx ga gb g0
    subst hnx
    rcases hab with ⟨rfl, rfl⟩ | ⟨rfl, rfl⟩
    ·
      show AWp _ _ _ _ _
      refine awp_seq (wpA_sound _ _ _ _ ?_)
      simp only [go_sem, ↓reduceIte, reduceCtorEq, Nat.reduceEqDiff, Nat.reduceLT, Nat.reduceLeDiff, Nat.reduceAdd, Nat.reduceSub, Nat.reduceMul, Nat.reduceGT, Int.reduceNeg, Int.reduceToNat, a1, a3, a4, ga, gb, g0]
      refine awp_seq (wpA_sound _ _ _ _ ?_)
      simp only [go_sem, ↓reduceIte, reduceCtorEq, Nat.reduceEqDiff, Nat.reduceLT, Nat.reduceLeDiff, Nat.reduceAdd, Nat.reduceSub, Nat.reduceMul, Nat.reduceGT, Int.reduceNeg, Int.reduceToNat, a1, a3, a4, ga, gb, g0]
      refine awp_seq (wpA_sound _ _ _ _ ?_)
      simp only [go_sem, ↓reduceIte, reduceCtorEq, Nat.reduceEqDiff, Nat.reduceLT, Nat.reduceLeDiff, Nat.reduceAdd, Nat.reduceSub, Nat.reduceMul, Nat.reduceGT, Int.reduceNeg, Int.reduceToNat, a1, a3, a4, ga, gb, g0]
      refine after_at Es.mgP1 (Fz_agg ⟨.v _, one_int 0 rfl rfl, .v _, .v _, .v _, .v _, (by first | exact .nil _ _ | exact (pu_slD pu_condC _).fz), .v _, .v _, .v _, .v _, .v _, .v _, .v _, .v _, .v _, .v _, .v _, .v _, trivial⟩) ?_
      simp only [go_sem, ↓reduceIte, reduceCtorEq, Nat.reduceEqDiff, Nat.reduceLT, Nat.reduceLeDiff, Nat.reduceAdd, Nat.reduceSub, Nat.reduceMul, Nat.reduceGT, Int.reduceNeg, Int.reduceToNat, a1, a3, a4, ga, gb, g0]
      refine awp_seq (wpA_sound _ _ _ _ ?_)
      simp only [go_sem, ↓reduceIte, reduceCtorEq, Nat.reduceEqDiff, Nat.reduceLT, Nat.reduceLeDiff, Nat.reduceAdd, Nat.reduceSub, Nat.reduceMul, Nat.reduceGT, Int.reduceNeg, Int.reduceToNat, a1, a3, a4, ga, gb, g0]
      refine after_at Es.mgP2 (Fz_agg ⟨.v _, one_int 0 rfl rfl, .v _, .v _, .v _, .v _, (by first | exact .nil _ _ | exact (pu_slD pu_condC _).fz), .v _, .v _, .v _, .v _, .v _, .v _, .v _, .v _, .v _, .v _, .v _, .v _, trivial⟩) ?_
      simp only [go_sem, ↓reduceIte, reduceCtorEq, Nat.reduceEqDiff, Nat.reduceLT, Nat.reduceLeDiff, Nat.reduceAdd, Nat.reduceSub, Nat.reduceMul, Nat.reduceGT, Int.reduceNeg, Int.reduceToNat, a1, a3, a4, ga, gb, g0]
      refine awp_seq (wpA_sound _ _ _ _ ?_)
      simp only [go_sem, ↓reduceIte, reduceCtorEq, Nat.reduceEqDiff, Nat.reduceLT, Nat.reduceLeDiff, Nat.reduceAdd, Nat.reduceSub, Nat.reduceMul, Nat.reduceGT, Int.reduceNeg, Int.reduceToNat, a1, a3, a4, ga, gb, g0]
      refine after_at Es.mgP3 (Fz_agg ⟨.v _, one_int 0 rfl rfl, .v _, .v _, .v _, .v _, (by first | exact .nil _ _ | exact (pu_slD pu_condC _).fz), .v _, .v _, .v _, .v _, .v _, .v _, .v _, .v _, .v _, .v _, .v _, .v _, trivial⟩) ?_
      simp only [go_sem, ↓reduceIte, reduceCtorEq, Nat.reduceEqDiff, Nat.reduceLT, Nat.reduceLeDiff, Nat.reduceAdd, Nat.reduceSub, Nat.reduceMul, Nat.reduceGT, Int.reduceNeg, Int.reduceToNat, a1, a3, a4, ga, gb, g0]
      refine awp_seq (wpA_sound _ _ _ _ ?_)
      simp only [go_sem, ↓reduceIte, reduceCtorEq, Nat.reduceEqDiff, Nat.reduceLT, Nat.reduceLeDiff, Nat.reduceAdd, Nat.reduceSub, Nat.reduceMul, Nat.reduceGT, Int.reduceNeg, Int.reduceToNat, a1, a3, a4, ga, gb, g0]
      refine after_at Es.mgP4 (Fz_agg ⟨.v _, one_int 0 rfl rfl, .v _, .v _, .v _, .v _, (by first | exact .nil _ _ | exact (pu_slD pu_condC _).fz), .v _, .v _, .v _, .v _, .v _, .v _, .v _, .v _, .v _, .v _, .v _, .v _, trivial⟩) ?_
      simp only [go_sem, ↓reduceIte, reduceCtorEq, Nat.reduceEqDiff, Nat.reduceLT, Nat.reduceLeDiff, Nat.reduceAdd, Nat.reduceSub, Nat.reduceMul, Nat.reduceGT, Int.reduceNeg, Int.reduceToNat, a1, a3, a4, ga, gb, g0]
      refine awp_seq (wpA_sound _ _ _ _ ?_)
      simp only [go_sem, ↓reduceIte, reduceCtorEq, Nat.reduceEqDiff, Nat.reduceLT, Nat.reduceLeDiff, Nat.reduceAdd, Nat.reduceSub, Nat.reduceMul, Nat.reduceGT, Int.reduceNeg, Int.reduceToNat, a1, a3, a4, ga, gb, g0]
      refine after_at Es.mgP5 (Fz_agg ⟨.v _, one_int 0 rfl rfl, .v _, .v _, .v _, .v _, (by first | exact .nil _ _ | exact (pu_slD pu_condC _).fz), .v _, .v _, .v _, .v _, .v _, .v _, .v _, .v _, .v _, .v _, .v _, .v _, trivial⟩) ?_
      simp only [go_sem, ↓reduceIte, reduceCtorEq, Nat.reduceEqDiff, Nat.reduceLT, Nat.reduceLeDiff, Nat.reduceAdd, Nat.reduceSub, Nat.reduceMul, Nat.reduceGT, Int.reduceNeg, Int.reduceToNat, a1, a3, a4, ga, gb, g0]
      refine awp_seq (wpA_sound _ _ _ _ ?_)
      simp only [go_sem, ↓reduceIte, reduceCtorEq, Nat.reduceEqDiff, Nat.reduceLT, Nat.reduceLeDiff, Nat.reduceAdd, Nat.reduceSub, Nat.reduceMul, Nat.reduceGT, Int.reduceNeg, Int.reduceToNat, a1, a3, a4, ga, gb, g0]
      refine awp_cellsW (f := 15) (k := 22) (n := 1) (cell' := fun r c => if c = 4 then .ms 14 0 1 0 1 else rowsOf amdC Es.mgL r c) rfl (fun r c hr hc => ?_) ?_
      · obtain rfl : r = 0 := by omega
        rcases (show c = 0 ∨ c = 1 ∨ c = 2 ∨ c = 3 ∨ c = 4 ∨ c = 5 ∨ c = 6 ∨ c = 7 ∨ c = 8 ∨ c = 9 ∨ c = 10 ∨ c = 11 ∨ c = 12 ∨ c = 13 ∨ c = 14 ∨ c = 15 ∨ c = 16 ∨ c = 17 ∨ c = 18 ∨ c = 19 ∨ c = 20 ∨ c = 21 by omega) with rfl | rfl | rfl | rfl | rfl | rfl | rfl | rfl | rfl | rfl | rfl | rfl | rfl | rfl | rfl | rfl | rfl | rfl | rfl | rfl | rfl | rfl <;> first | exact Wkd.refl _ | exact Wkd.nil _ _
      refine awp_freeze_in (f := 14) (k := 1) (n := 1) (fa := 15) (ka := 22) (na := 1) (cell' := rowsOf intC [0]) (ca' := rowsOf amdC Es.mgL) rfl (fun r c hr hc => ?_) (by decide) rfl (fun r c hr hc => ?_) ?_
      · obtain rfl : r = 0 := by omega
        obtain rfl : c = 0 := by omega
        rfl
      · by_cases h4 : c = 4
        · subst h4
          obtain rfl : r = 0 := by omega
          exact .inr ⟨rfl, rfl⟩
        · exact .inl (by rw [if_neg h4])
      refine awp_freeze (t := 10) (f := 15) (k := 22) (n := 1) (cell' := rowsOf amdC Es.mgL) rfl rfl (fun _ _ _ _ => rfl) ?_
      rw [show D.sl 22 1 (rowsOf amdC Es.mgL) = slD 22 amdC Es.mgL from rfl]
      refine awp_seq (wpA_sound _ _ _ _ ?_)
      simp only [go_sem, ↓reduceIte, reduceCtorEq, Nat.reduceEqDiff, Nat.reduceLT, Nat.reduceLeDiff, Nat.reduceAdd, Nat.reduceSub, Nat.reduceMul, Nat.reduceGT, Int.reduceNeg, Int.reduceToNat, a1, a3, a4, ga, gb, g0]
      refine acall_freeze (f := 16) (k := 1) (n := 3) (cell' := rowsOf intC [-1, 0, -1]) (args' := [conD Es.mgC, slD 22 amdC Es.mgL, .v (.int .i64 0), slD 1 intC [-1, 0, -1]]) rfl (fun r c hr hc => ?_) ⟨.inl rfl, .inl rfl, .inl rfl, .inr ⟨rfl, rfl⟩, trivial⟩ ?_
      · obtain rfl : c = 0 := by omega
        rcases (show r = 0 ∨ r = 1 ∨ r = 2 by omega) with rfl | rfl | rfl <;> rfl
      refine call_at M_P M_G (run_spec Es.mgC Es.mgL 0 [-1, 0, -1] Es.mgC_fits (by decide) (by decide)) ?_
      simp only [go_sem, ↓reduceIte, reduceCtorEq, Nat.reduceEqDiff, Nat.reduceLT, Nat.reduceLeDiff, Nat.reduceAdd, Nat.reduceSub, Nat.reduceMul, Nat.reduceGT, Int.reduceNeg, Int.reduceToNat, Es.mg_run]
      refine wpA_sound _ _ _ _ ?_
      simp only [go_sem, ↓reduceIte, reduceCtorEq, Nat.reduceEqDiff, Nat.reduceLT, Nat.reduceLeDiff, Nat.reduceAdd, Nat.reduceSub, Nat.reduceMul, Nat.reduceGT, Int.reduceNeg, Int.reduceToNat, Es.mg_l1, Es.mg_l2, Es.mg_a2, Es.mg_a3, Es.mg_s3, Es.mg_1, Es.mg_2, Es.mg_3, Es.mg_4, Es.mg_5]
      repeat (first | (rw [if_pos (by decide)]) | (rw [if_neg (by decide)]) | (refine ⟨by decide, ?_⟩))
      all_goals rfl
    ·
      show AWp _ _ _ _ _
      refine awp_seq (wpA_sound _ _ _ _ ?_)
      simp only [go_sem, ↓reduceIte, reduceCtorEq, Nat.reduceEqDiff, Nat.reduceLT, Nat.reduceLeDiff, Nat.reduceAdd, Nat.reduceSub, Nat.reduceMul, Nat.reduceGT, Int.reduceNeg, Int.reduceToNat, a1, a3, a4, ga, gb, g0]
      refine awp_seq (wpA_sound _ _ _ _ ?_)
      simp only [go_sem, ↓reduceIte, reduceCtorEq, Nat.reduceEqDiff, Nat.reduceLT, Nat.reduceLeDiff, Nat.reduceAdd, Nat.reduceSub, Nat.reduceMul, Nat.reduceGT, Int.reduceNeg, Int.reduceToNat, a1, a3, a4, ga, gb, g0]
      refine awp_seq (wpA_sound _ _ _ _ ?_)
      simp only [go_sem, ↓reduceIte, reduceCtorEq, Nat.reduceEqDiff, Nat.reduceLT, Nat.reduceLeDiff, Nat.reduceAdd, Nat.reduceSub, Nat.reduceMul, Nat.reduceGT, Int.reduceNeg, Int.reduceToNat, a1, a3, a4, ga, gb, g0]
      refine after_at Es.mgP1 (Fz_agg ⟨.v _, one_int 0 rfl rfl, .v _, .v _, .v _, .v _, (by first | exact .nil _ _ | exact (pu_slD pu_condC _).fz), .v _, .v _, .v _, .v _, .v _, .v _, .v _, .v _, .v _, .v _, .v _, .v _, trivial⟩) ?_
      simp only [go_sem, ↓reduceIte, reduceCtorEq, Nat.reduceEqDiff, Nat.reduceLT, Nat.reduceLeDiff, Nat.reduceAdd, Nat.reduceSub, Nat.reduceMul, Nat.reduceGT, Int.reduceNeg, Int.reduceToNat, a1, a3, a4, ga, gb, g0]
      refine awp_seq (wpA_sound _ _ _ _ ?_)
      simp only [go_sem, ↓reduceIte, reduceCtorEq, Nat.reduceEqDiff, Nat.reduceLT, Nat.reduceLeDiff, Nat.reduceAdd, Nat.reduceSub, Nat.reduceMul, Nat.reduceGT, Int.reduceNeg, Int.reduceToNat, a1, a3, a4, ga, gb, g0]
      refine after_at Es.mgP2 (Fz_agg ⟨.v _, one_int 0 rfl rfl, .v _, .v _, .v _, .v _, (by first | exact .nil _ _ | exact (pu_slD pu_condC _).fz), .v _, .v _, .v _, .v _, .v _, .v _, .v _, .v _, .v _, .v _, .v _, .v _, trivial⟩) ?_
      simp only [go_sem, ↓reduceIte, reduceCtorEq, Nat.reduceEqDiff, Nat.reduceLT, Nat.reduceLeDiff, Nat.reduceAdd, Nat.reduceSub, Nat.reduceMul, Nat.reduceGT, Int.reduceNeg, Int.reduceToNat, a1, a3, a4, ga, gb, g0]
      refine awp_seq (wpA_sound _ _ _ _ ?_)
      simp only [go_sem, ↓reduceIte, reduceCtorEq, Nat.reduceEqDiff, Nat.reduceLT, Nat.reduceLeDiff, Nat.reduceAdd, Nat.reduceSub, Nat.reduceMul, Nat.reduceGT, Int.reduceNeg, Int.reduceToNat, a1, a3, a4, ga, gb, g0]
      refine after_at Es.mgP3 (Fz_agg ⟨.v _, one_int 0 rfl rfl, .v _, .v _, .v _, .v _, (by first | exact .nil _ _ | exact (pu_slD pu_condC _).fz), .v _, .v _, .v _, .v _, .v _, .v _, .v _, .v _, .v _, .v _, .v _, .v _, trivial⟩) ?_
      simp only [go_sem, ↓reduceIte, reduceCtorEq, Nat.reduceEqDiff, Nat.reduceLT, Nat.reduceLeDiff, Nat.reduceAdd, Nat.reduceSub, Nat.reduceMul, Nat.reduceGT, Int.reduceNeg, Int.reduceToNat, a1, a3, a4, ga, gb, g0]
      refine awp_seq (wpA_sound _ _ _ _ ?_)
      simp only [go_sem, ↓reduceIte, reduceCtorEq, Nat.reduceEqDiff, Nat.reduceLT, Nat.reduceLeDiff, Nat.reduceAdd, Nat.reduceSub, Nat.reduceMul, Nat.reduceGT, Int.reduceNeg, Int.reduceToNat, a1, a3, a4, ga, gb, g0]
      refine after_at Es.mgP4 (Fz_agg ⟨.v _, one_int 0 rfl rfl, .v _, .v _, .v _, .v _, (by first | exact .nil _ _ | exact (pu_slD pu_condC _).fz), .v _, .v _, .v _, .v _, .v _, .v _, .v _, .v _, .v _, .v _, .v _, .v _, trivial⟩) ?_
      simp only [go_sem, ↓reduceIte, reduceCtorEq, Nat.reduceEqDiff, Nat.reduceLT, Nat.reduceLeDiff, Nat.reduceAdd, Nat.reduceSub, Nat.reduceMul, Nat.reduceGT, Int.reduceNeg, Int.reduceToNat, a1, a3, a4, ga, gb, g0]
      refine awp_seq (wpA_sound _ _ _ _ ?_)
      simp only [go_sem, ↓reduceIte, reduceCtorEq, Nat.reduceEqDiff, Nat.reduceLT, Nat.reduceLeDiff, Nat.reduceAdd, Nat.reduceSub, Nat.reduceMul, Nat.reduceGT, Int.reduceNeg, Int.reduceToNat, a1, a3, a4, ga, gb, g0]
      refine after_at Es.mgP5 (Fz_agg ⟨.v _, one_int 0 rfl rfl, .v _, .v _, .v _, .v _, (by first | exact .nil _ _ | exact (pu_slD pu_condC _).fz), .v _, .v _, .v _, .v _, .v _, .v _, .v _, .v _, .v _, .v _, .v _, .v _, trivial⟩) ?_
      simp only [go_sem, ↓reduceIte, reduceCtorEq, Nat.reduceEqDiff, Nat.reduceLT, Nat.reduceLeDiff, Nat.reduceAdd, Nat.reduceSub, Nat.reduceMul, Nat.reduceGT, Int.reduceNeg, Int.reduceToNat, a1, a3, a4, ga, gb, g0]
      refine awp_seq (wpA_sound _ _ _ _ ?_)
      simp only [go_sem, ↓reduceIte, reduceCtorEq, Nat.reduceEqDiff, Nat.reduceLT, Nat.reduceLeDiff, Nat.reduceAdd, Nat.reduceSub, Nat.reduceMul, Nat.reduceGT, Int.reduceNeg, Int.reduceToNat, a1, a3, a4, ga, gb, g0]
      refine awp_cellsW (f := 15) (k := 22) (n := 1) (cell' := fun r c => if c = 4 then .ms 14 0 1 0 1 else rowsOf amdC Es.mgL r c) rfl (fun r c hr hc => ?_) ?_
      · obtain rfl : r = 0 := by omega
        rcases (show c = 0 ∨ c = 1 ∨ c = 2 ∨ c = 3 ∨ c = 4 ∨ c = 5 ∨ c = 6 ∨ c = 7 ∨ c = 8 ∨ c = 9 ∨ c = 10 ∨ c = 11 ∨ c = 12 ∨ c = 13 ∨ c = 14 ∨ c = 15 ∨ c = 16 ∨ c = 17 ∨ c = 18 ∨ c = 19 ∨ c = 20 ∨ c = 21 by omega) with rfl | rfl | rfl | rfl | rfl | rfl | rfl | rfl | rfl | rfl | rfl | rfl | rfl | rfl | rfl | rfl | rfl | rfl | rfl | rfl | rfl | rfl <;> first | exact Wkd.refl _ | exact Wkd.nil _ _
      refine awp_freeze_in (f := 14) (k := 1) (n := 1) (fa := 15) (ka := 22) (na := 1) (cell' := rowsOf intC [0]) (ca' := rowsOf amdC Es.mgL) rfl (fun r c hr hc => ?_) (by decide) rfl (fun r c hr hc => ?_) ?_
      · obtain rfl : r = 0 := by omega
        obtain rfl : c = 0 := by omega
        rfl
      · by_cases h4 : c = 4
        · subst h4
          obtain rfl : r = 0 := by omega
          exact .inr ⟨rfl, rfl⟩
        · exact .inl (by rw [if_neg h4])
      refine awp_freeze (t := 10) (f := 15) (k := 22) (n := 1) (cell' := rowsOf amdC Es.mgL) rfl rfl (fun _ _ _ _ => rfl) ?_
      rw [show D.sl 22 1 (rowsOf amdC Es.mgL) = slD 22 amdC Es.mgL from rfl]
      refine awp_seq (wpA_sound _ _ _ _ ?_)
      simp only [go_sem, ↓reduceIte, reduceCtorEq, Nat.reduceEqDiff, Nat.reduceLT, Nat.reduceLeDiff, Nat.reduceAdd, Nat.reduceSub, Nat.reduceMul, Nat.reduceGT, Int.reduceNeg, Int.reduceToNat, a1, a3, a4, ga, gb, g0]
      refine acall_freeze (f := 16) (k := 1) (n := 3) (cell' := rowsOf intC [-1, 0, -1]) (args' := [conD Es.mgC, slD 22 amdC Es.mgL, .v (.int .i64 0), slD 1 intC [-1, 0, -1]]) rfl (fun r c hr hc => ?_) ⟨.inl rfl, .inl rfl, .inl rfl, .inr ⟨rfl, rfl⟩, trivial⟩ ?_
      · obtain rfl : c = 0 := by omega
        rcases (show r = 0 ∨ r = 1 ∨ r = 2 by omega) with rfl | rfl | rfl <;> rfl
      refine call_at M_P M_G (run_spec Es.mgC Es.mgL 0 [-1, 0, -1] Es.mgC_fits (by decide) (by decide)) ?_
      simp only [go_sem, ↓reduceIte, reduceCtorEq, Nat.reduceEqDiff, Nat.reduceLT, Nat.reduceLeDiff, Nat.reduceAdd, Nat.reduceSub, Nat.reduceMul, Nat.reduceGT, Int.reduceNeg, Int.reduceToNat, Es.mg_run]
      refine wpA_sound _ _ _ _ ?_
      simp only [go_sem, ↓reduceIte, reduceCtorEq, Nat.reduceEqDiff, Nat.reduceLT, Nat.reduceLeDiff, Nat.reduceAdd, Nat.reduceSub, Nat.reduceMul, Nat.reduceGT, Int.reduceNeg, Int.reduceToNat, Es.mg_l1, Es.mg_l2, Es.mg_a2, Es.mg_a3, Es.mg_s3, Es.mg_1, Es.mg_2, Es.mg_3, Es.mg_4, Es.mg_5]
      repeat (first | (rw [if_pos (by decide)]) | (rw [if_neg (by decide)]) | (refine ⟨by decide, ?_⟩))
      all_goals rfl
end Tryz
end Go.Proofs
end
section
/-
  Plain laws of migrate, part 2: failures, spans.
-/
namespace Es
/-- How many of the first clauses have failed. -/
def failK (ms : List Mark) : Nat → Int
  | 0 => 0
  | k + 1 => failK ms k + if (at_ ms (k : Int)).status == 4 then 1 else 0
def failures (s : State) : Int := failK s.marks s.marks.length
variable {c : Contract} {p : Patch} {s : State}
theorem failK_eq {ms ns : List Mark} : ∀ k : Nat, (∀ i : Nat, i < k → ((at_ ms (i : Int)).status = 4 ↔ (at_ ns (i : Int)).status = 4)) → failK ms k = failK ns k
  | 0, _ => rfl
  | k + 1, h => by
    unfold failK
    rw [failK_eq k fun i hi => h i (by omega)]
    have := h k (by omega)
    by_cases h4 : (at_ ms (k : Int)).status = 4
    · rw [if_pos (by simpa using h4), if_pos (by simpa using this.1 h4)]
    · rw [if_neg (by simpa using h4), if_neg (by simpa using fun h => h4 (this.2 h))]
theorem failK_le (ms : List Mark) : ∀ k : Nat, 0 ≤ failK ms k ∧ failK ms k ≤ k
  | 0 => by simp [failK]
  | k + 1 => by
    have := failK_le ms k
    unfold failK
    split <;> omega
theorem law_fails (hv : sValid c s = true) (h : (applyP c p).2 = 0) : failures s = failures (migrate c p s).1 := by
  have hl := migrate_len hv h
  have hF := fine2 hv h
  have h1 : failK s.marks s.marks.length = failK (migrate c p s).1.marks s.marks.length := failK_eq _ fun i hi => (law_kept hv h hi).fail.symm
  unfold failures
  rw [h1, hl]
  by_cases hk : p.kind = 1
  · rw [if_pos hk, failK]
    have hB := migrate_marks hv h
    have hml : (marksP c p s).length = s.marks.length + 1 := by rw [hF.mlen, hF.clen, if_pos hk, hF.core.ml]
    have hold := hB.old s.marks.length (by simp only; omega)
    have hnew := hB.new s.marks.length (by simp only; omega)
    simp only at hold hnew
    rw [hF.markN hk] at hold hnew
    have : ¬ (at_ (migrate c p s).1.marks ((s.marks.length : Nat) : Int)).status = 4 := by
      cases hw : p.new.waived with
      | true =>
        rw [hold (by simp [hw])]; simp [hw]
      | false =>
        rcases hnew (by simp [hw]) with h2 | ⟨h2, _⟩
        · rw [h2]; simp [hw]
        · rw [h2]; simp [startMark]
    rw [if_neg (by simpa using this)]; omega
  · rw [if_neg hk, Nat.add_zero]
def spanP (z : Clause) (i : Nat) (n : Int) : Patch := ⟨5, [(i : Int)], z, n⟩
theorem span_clause {z : Clause} {i : Nat} {n : Int} (hi : i < c.clauses.length) (j : Nat) : at_ (changed c (spanP z i n)).clauses (j : Int) = if j = i then { at_ c.clauses (j : Int) with after := n } else at_ c.clauses (j : Int) := by
  show at_ (c.clauses.set (i : Int).toNat (change (spanP z i n) (at_ c.clauses (i : Int)))) (j : Int) = _
  rw [Int.toNat_natCast, at_setA hi]
  by_cases h : i = j
  · subst h; rw [if_pos rfl, if_pos rfl]; rfl
  · rw [if_neg h, if_neg (by omega)]
theorem span_len {z : Clause} {i : Nat} {n : Int} : (changed c (spanP z i n)).clauses.length = c.clauses.length := by
  show (c.clauses.set _ _).length = _
  simp
theorem span_cond {z : Clause} {i : Nat} {n : Int} (k : Int) : condOk (changed c (spanP z i n)) k = condOk c k := by
  funext d
  unfold condOk
  rw [show len (changed c (spanP z i n)).clauses = len c.clauses by simp only [len, span_len]]
theorem span_clauseB {z : Clause} {i : Nat} {n k : Int} {x : Clause} {D P F : Bool} {N G : Int} (hn : 1 ≤ n ∧ n ≤ 400) (h : clauseB c k x D N G P F = true) : clauseB (changed c (spanP z i n)) k { x with after := n } D N G P F = true := by
  unfold clauseB at h ⊢
  split at h
  · cases h
  rename_i h1
  split at h
  · cases h
  rename_i h2
  rw [if_neg, if_neg]
  · exact h
  · rw [span_cond]; exact h2
  · simp only [Bool.or_eq_true, not_or] at h1 ⊢
    obtain ⟨⟨⟨⟨⟨⟨a1, a2⟩, a3⟩, a4⟩, _⟩, a6⟩, a7⟩ := h1
    exact ⟨⟨⟨⟨⟨⟨a1, a2⟩, a3⟩, a4⟩, by simp only [within]; simp; omega⟩, a6⟩, a7⟩
theorem span_apply {z : Clause} {i : Nat} {n : Int} (hc : (valid2 c).1 = 0) (hz : zeroClause z = true) (hi : i < c.clauses.length) (hn : 1 ≤ n ∧ n ≤ 400) : (applyP c (spanP z i n)).2 = 0 := by
  have hfm : formed c (spanP z i n) = true := by
    unfold formed
    have hio : inOrder (len c.clauses) [(i : Int)] = true := by
      unfold inOrder
      rw [allN_iff]
      intro j hj
      obtain rfl : j = 0 := by simpa using hj
      simp only [inOrdB, at_, len]
      simp; omega
    rw [if_neg (by simp [spanP, leastOf, mostOf, len, hz]), if_neg (by show ¬ (!inOrder (len c.clauses) [(i : Int)]) = true; simp [hio]), if_pos (by simp [spanP])]
    show (decide (1 ≤ n) && decide (n ≤ 400)) = true
    simpa using hn
  have hV : ∀ {j : Nat}, j < c.clauses.length → clauseOk c (j : Int) = true := fun {j} hj => valid2_clause (c := c) (by simpa using hc) hj
  have hcl : ∀ j : Nat, j < c.clauses.length → clauseOk (changed c (spanP z i n)) (j : Int) = true := fun j hj => by
    have h := hV hj
    unfold clauseOk at h ⊢
    rw [span_clause hi]
    split
    · simp only at h ⊢
      split at h
      · rename_i hk; rw [if_pos hk]; exact span_clauseB hn h
      rename_i hk1; rw [if_neg hk1]
      split at h
      · rename_i hk; rw [if_pos hk]; exact span_clauseB hn h
      rename_i hk2; rw [if_neg hk2]
      split at h
      · rename_i hk; rw [if_pos hk]; exact span_clauseB hn h
      rename_i hk3; rw [if_neg hk3]
      split at h
      · rename_i hk; rw [if_pos hk]; exact span_clauseB hn h
      · cases h
    · simp only at h ⊢
      have e : ∀ (k : Int) (x : Clause) (d : Bool) (n1 g : Int) (p f : Bool), clauseB (changed c (spanP z i n)) k x d n1 g p f = clauseB c k x d n1 g p f := fun k x d n1 g p f => by
        unfold clauseB; rw [span_cond]; rfl
      simp only [e]
      exact h
  have hv : (valid2 (changed c (spanP z i n))).1 = 0 := by
    have hf : frame (changed c (spanP z i n)) = frame c := rfl
    have hl : len (changed c (spanP z i n)).clauses = len c.clauses := by simp only [len, span_len]
    unfold valid2 at hc ⊢
    rw [hf, hl, span_len]
    rw [show (changed c (spanP z i n)).parties = c.parties from rfl, show (changed c (spanP z i n)).days = c.days from rfl, show (changed c (spanP z i n)).holders = c.holders from rfl, show (changed c (spanP z i n)).units = c.units from rfl, show (changed c (spanP z i n)).acts = c.acts from rfl]
    split at hc
    · cases hc
    rename_i h1
    rw [if_neg h1]
    split at hc
    · cases hc
    rename_i h2
    rw [if_neg h2]
    rw [List.find?_eq_none.2 fun x hx => by simp [hcl x (List.mem_range.1 hx)]]
  unfold applyP
  rw [if_neg (by simp [hfm, hc]), if_neg (by simp [spanP]), if_neg (by simp [hv])]
theorem law_spans {z : Clause} {i : Nat} {n : Int} (hv : sValid c s = true) (hz : zeroClause z = true) (hi : i < c.clauses.length) (hn : 1 ≤ n ∧ n ≤ 400) :
    (migrate c (spanP z i n) s).2 = 0 ∧ (migrate c (spanP z i n) s).1.marks.length = s.marks.length ∧ ∀ k : Nat, k < s.marks.length → at_ (migrate c (spanP z i n) s).1.marks (k : Int) = if k = i then spanM n (at_ c.clauses (i : Int)) (at_ s.marks (i : Int)) else at_ s.marks (k : Int) := by
  obtain ⟨hC, hrd⟩ := sValid_iff.1 hv
  have ha := span_apply (z := z) hC.con hz hi hn
  have hF := fine2 hv ha
  have hmk : ∀ k : Nat, at_ (marksP c (spanP z i n) s) (k : Int) = if k = i then spanM n (at_ c.clauses (i : Int)) (at_ s.marks (i : Int)) else at_ s.marks (k : Int) := fun k => by
    show at_ (s.marks.set (i : Int).toNat (changeM c (spanP z i n) s.holders (i : Int) (at_ s.marks (i : Int)))) (k : Int) = _
    rw [Int.toNat_natCast, at_setA (by rw [hC.ml]; exact hi)]
    by_cases h : i = k
    · subst h; rw [if_pos rfl, if_pos rfl]; rfl
    · rw [if_neg h, if_neg (by omega)]
  have hst : ∀ x : Int, (at_ (marksP c (spanP z i n) s) x).status = (at_ s.marks x).status := fun x => by
    rw [← at_nn, ← at_nn (l := s.marks), hmk]
    split
    · rename_i h; rw [h, spanM_keeps.2.2]
    · rfl
  have hfl : ∀ x, fails { s with marks := marksP c (spanP z i n) s } x = fails s x := fun x => by
    unfold fails; simp only [hst]
  have hnone : ∀ k : Nat, k < (changed c (spanP z i n)).clauses.length → ready (changed c (spanP z i n)) { s with marks := marksP c (spanP z i n) s } (k : Int) = false := fun k hk => by
    rw [span_len] at hk
    have := hrd k (by rw [hC.ml]; exact hk)
    unfold ready at this ⊢
    simp only [hst]
    rw [show fails { s with marks := marksP c (spanP z i n) s } = fails s from funext hfl]
    rw [span_clause hi]
    split
    · exact this
    · exact this
  rw [migrate_ok hv ha, begin_none hnone]
  refine ⟨rfl, ?_, fun k hk => hmk k⟩
  simp only
  rw [hF.mlen, span_len, hC.ml]
end Es
end
section
namespace Es
def patSmall (p : Patch) : Bool := decide (len p.clauses ≤ 500) && decide (len p.new.start ≤ 20)
end Es
namespace Go.Proofs
open Go Go.Abs
set_option linter.unusedSimpArgs false
set_option linter.unusedVariables false
set_option maxRecDepth 10000
namespace Tryz
theorem patSmall_spec (p : Es.Patch) : APure M 10 [patD p] (.v (.bool (Es.patSmall p))) := by
  refine pure_of gpu func10 rfl results10 ntmps10 (by simp) ⟨pu_patD _, trivial⟩ ?_
  intro b
  simp only [go_sem, ↓reduceIte, reduceCtorEq, Nat.reduceEqDiff, Nat.reduceLT, Nat.reduceLeDiff, Nat.reduceAdd, Nat.reduceSub, Nat.reduceMul, Nat.reduceGT, Int.reduceNeg, Int.reduceToNat]
  repeat' (first | (with_reducible refine And.intro ?_ ?_) | ((with_reducible refine ite_cases ?_ ?_) <;> intro _))
  all_goals first | (simp [Es.patSmall, *]; done) | (simp [Es.patSmall, *]; omega) | (simp_all [Es.patSmall]; done) | (simp_all [Es.patSmall]; omega)
theorem fits_applyP {c : Es.Contract} {p : Es.Patch} : Es.Fits (Es.applyP c p).1 := by
  by_cases h : (Es.applyP c p).2 = 0
  · exact fits_apply h
  · rw [show (Es.applyP c p).1 = Es.zeroCon by
      unfold Es.applyP at h ⊢
      split
      · rfl
      · rename_i h1
        rw [if_neg h1] at h
        split
        · rfl
        · rename_i h2
          rw [if_neg h2] at h
          split
          · rfl
          · rename_i h3
            rw [if_neg h3] at h
            exact absurd rfl h]
    exact ⟨by simp [Es.zeroCon], by simp [Es.zeroCon], by simp [Es.zeroCon], by simp [Es.zeroCon], by simp [Es.zeroCon]⟩
theorem mstates_spec (c : Es.Contract) (p : Es.Patch) (s : Es.State) (hf : Es.Fits c) (hs : Es.SFits s) : APure M 6 [conD c, patD p, staD s] (.v (.bool true)) := by
  refine pure_of gpu func6 rfl results6 ntmps6 (by simp) ⟨pu_conD _, pu_patD _, pu_staD _, trivial⟩ ?_
  intro b
  simp only [go_sem, ↓reduceIte, reduceCtorEq, Nat.reduceEqDiff, Nat.reduceLT, Nat.reduceLeDiff, Nat.reduceAdd, Nat.reduceSub, Nat.reduceMul, Nat.reduceGT, Int.reduceNeg, Int.reduceToNat]
  repeat' (first | ((with_reducible refine call_at M_P M_G (head27_spec) ?_); simp only [go_sem, ↓reduceIte, reduceCtorEq, Nat.reduceEqDiff, Nat.reduceLT, Nat.reduceLeDiff, Nat.reduceAdd, Nat.reduceSub, Nat.reduceMul, Nat.reduceGT, Int.reduceNeg, Int.reduceToNat]) | ((with_reducible refine call_at M_P M_G (small_spec c 40 hf) ?_); simp only [go_sem, ↓reduceIte, reduceCtorEq, Nat.reduceEqDiff, Nat.reduceLT, Nat.reduceLeDiff, Nat.reduceAdd, Nat.reduceSub, Nat.reduceMul, Nat.reduceGT, Int.reduceNeg, Int.reduceToNat]) | ((with_reducible refine call_at M_P M_G (patSmall_spec p) ?_); simp only [go_sem, ↓reduceIte, reduceCtorEq, Nat.reduceEqDiff, Nat.reduceLT, Nat.reduceLeDiff, Nat.reduceAdd, Nat.reduceSub, Nat.reduceMul, Nat.reduceGT, Int.reduceNeg, Int.reduceToNat]) | ((with_reducible refine call_at M_P M_G (few_spec s) ?_); simp only [go_sem, ↓reduceIte, reduceCtorEq, Nat.reduceEqDiff, Nat.reduceLT, Nat.reduceLeDiff, Nat.reduceAdd, Nat.reduceSub, Nat.reduceMul, Nat.reduceGT, Int.reduceNeg, Int.reduceToNat]) | ((with_reducible refine call_at M_P M_G (migrate_spec c p s hf hs) ?_); simp only [go_sem, ↓reduceIte, reduceCtorEq, Nat.reduceEqDiff, Nat.reduceLT, Nat.reduceLeDiff, Nat.reduceAdd, Nat.reduceSub, Nat.reduceMul, Nat.reduceGT, Int.reduceNeg, Int.reduceToNat]) | ((with_reducible refine call_at M_P M_G (apply_spec c p hf) ?_); simp only [go_sem, ↓reduceIte, reduceCtorEq, Nat.reduceEqDiff, Nat.reduceLT, Nat.reduceLeDiff, Nat.reduceAdd, Nat.reduceSub, Nat.reduceMul, Nat.reduceGT, Int.reduceNeg, Int.reduceToNat]) | ((with_reducible refine call_at M_P M_G (sValid_spec c s hf hs) ?_); simp only [go_sem, ↓reduceIte, reduceCtorEq, Nat.reduceEqDiff, Nat.reduceLT, Nat.reduceLeDiff, Nat.reduceAdd, Nat.reduceSub, Nat.reduceMul, Nat.reduceGT, Int.reduceNeg, Int.reduceToNat]) | ((with_reducible refine call_at M_P M_G (sValid_spec (Es.applyP c p).1 (Es.migrate c p s).1 fits_applyP (sfits_migrate c p s)) ?_); simp only [go_sem, ↓reduceIte, reduceCtorEq, Nat.reduceEqDiff, Nat.reduceLT, Nat.reduceLeDiff, Nat.reduceAdd, Nat.reduceSub, Nat.reduceMul, Nat.reduceGT, Int.reduceNeg, Int.reduceToNat]) | ((with_reducible refine call_at M_P M_G (same_spec (Es.migrate c p s).1 ⟨s.day, s.holders, s.used, (Es.migrate c p s).1.marks⟩ (sfits_migrate c p s)) ?_); simp only [go_sem, ↓reduceIte, reduceCtorEq, Nat.reduceEqDiff, Nat.reduceLT, Nat.reduceLeDiff, Nat.reduceAdd, Nat.reduceSub, Nat.reduceMul, Nat.reduceGT, Int.reduceNeg, Int.reduceToNat]) | (with_reducible refine And.intro ?_ ?_) | ((with_reducible refine ite_cases ?_ ?_) <;> intro _))
  all_goals
    have hL := Es.law_mstates c p s
    first
      | trivial
      | (rcases hL with ⟨h1, h2⟩ | ⟨h1, h2, h3, h4⟩ | ⟨h1, h2, h3, h4, h5, h6, h7⟩ <;> (simp_all; done))
      | (refine call_at M_P M_G (same_spec (Es.migrate c p s).1 ⟨s.day, s.holders, s.used, (Es.migrate c p s).1.marks⟩ (sfits_migrate c p s)) ?_
         simp only [go_sem, ↓reduceIte, reduceCtorEq, Nat.reduceEqDiff, Nat.reduceLT, Nat.reduceLeDiff, Nat.reduceAdd, Nat.reduceSub, Nat.reduceMul, Nat.reduceGT, Int.reduceNeg, Int.reduceToNat]
         rcases hL with ⟨h1, h2⟩ | ⟨h1, h2, h3, h4⟩ | ⟨h1, h2, h3, h4, h5, h6, h7⟩ <;> (simp_all; done))
end Tryz
end Go.Proofs
end
