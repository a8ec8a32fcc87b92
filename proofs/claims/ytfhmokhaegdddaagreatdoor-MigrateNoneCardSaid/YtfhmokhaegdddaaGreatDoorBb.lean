/-
  Parts of an abstract machine over the model, of the program's data and of what its functions compute: the texts AbsS AbsJ AbsR AbsL Mod Enc AbsP, merged.
-/
import Derived.Test.YtfhmokhaegdddaaGreatDoorBa
import Derived.OrdersIn
import Derived.Laws.Strings
import Derived.ChangeArms
import Derived.DataReads
import Derived.Below
set_option linter.unusedSimpArgs false
set_option linter.unusedVariables false
section
/-
  An abstract machine over the model, part 10: the equations by which a body is reckoned.
-/
namespace Go.Abs
open Go

/-- An equation that is no definitional rewrite: where it is used, nothing is unfolded. -/
theorem nr {α : Sort _} {a b : α} (h : a = b) : a = b := h

section
variable {M : Ctx} {all : Array Oper} {Q : Env → S → Prop}
theorem ARun_nil (e : Env) (s : S) : ARun M all Q [] e s = Q e s := nr rfl
theorem ARun_cons (o : Oper) (os : List Oper) (e : Env) (s : S) : ARun M all Q (o :: os) e s =
    ((∀ t, o.dst = some t → t < M.N) ∧
    match o.guard with
    | none => AStep M o.op e s (ARunC M all Q os e o.dst)
    | some (j, want) =>
      match ((all[j]?).bind (·.dst)).map e with
      | some (.v (.bool b)) => if b = want then AStep M o.op e s (ARunC M all Q os e o.dst) else ARun M all Q os (put e o.dst (.v undef)) s
      | some (.v (.tuple _)) => ARun M all Q os (put e o.dst (.v undef)) s
      | _ => False) := rfl
theorem ARun_some (t : Nat) (op : Op) (ty : TypeId) (p : String) (af : Array Edge) (os : List Oper) (e : Env) (s : S) :
    ARun M all Q (⟨some t, op, ty, p, af, none⟩ :: os) e s = (t < M.N ∧ AStep M op e s (ARunC M all Q os e (some t))) := by
  rw [ARun_cons]; simp
theorem ARun_none (op : Op) (ty : TypeId) (p : String) (af : Array Edge) (os : List Oper) (e : Env) (s : S) :
    ARun M all Q (⟨none, op, ty, p, af, none⟩ :: os) e s = AStep M op e s (ARunC M all Q os e none) := by
  rw [ARun_cons]; simp
/-- A guarded operation: its guard's slot is looked up first, then what the slot holds; either way the slot's value is then known. -/
def AGuard (M : Ctx) (all : Array Oper) (Q : Env → S → Prop) (g : Option Nat) (want : Bool) (t : Nat) (op : Op) (os : List Oper) (e : Env) (s : S) : Prop :=
  match g.map e with
  | some (.v (.bool b)) => if b = want then AStep M op e s (ARunC M all Q os e (some t)) else ARun M all Q os (put e (some t) (.v undef)) s
  | some (.v (.tuple _)) => ARun M all Q os (put e (some t) (.v undef)) s
  | _ => False
def AGuardE (M : Ctx) (all : Array Oper) (Q : Env → S → Prop) (d : D) (g : Nat) (want : Bool) (t : Nat) (op : Op) (os : List Oper) (e : Env) (s : S) : Prop :=
  match d with
  | .v (.bool b) => if b = want then AStep M op (upd e g (.v (.bool want))) s (ARunC M all Q os (upd e g (.v (.bool want))) (some t)) else ARun M all Q os (put (upd e g (.v (.bool (!want)))) (some t) (.v undef)) s
  | .v (.tuple _) => ARun M all Q os (put e (some t) (.v undef)) s
  | _ => False
theorem upd_self (e : Env) (g : Nat) (d : D) (h : e g = d) : upd e g d = e := by
  funext j
  show (if j = g then d else e j) = e j
  split
  · rename_i hj; rw [hj, h]
  · rfl
theorem AGuard_some (g : Nat) (want : Bool) (t : Nat) (op : Op) (os : List Oper) (e : Env) (s : S) : AGuard M all Q (some g) want t op os e s = AGuardE M all Q (e g) g want t op os e s := by
  unfold AGuard AGuardE
  simp only [Option.map_some]
  generalize hd : e g = d
  split
  · rename_i b he
    simp only [Option.some.injEq] at he
    subst he
    by_cases hb : b = want
    · subst hb; simp only [if_pos, upd_self e g _ hd]
    · have : b = !want := by cases b <;> cases want <;> simp_all
      subst this
      simp only [if_neg hb, upd_self e g _ hd]
  · rename_i vs he
    simp only [Option.some.injEq] at he
    subst he
    rfl
  · split <;> simp_all
theorem ARun_guard (t : Nat) (op : Op) (ty : TypeId) (p : String) (af : Array Edge) (j : Nat) (want : Bool) (os : List Oper) (e : Env) (s : S) :
    ARun M all Q (⟨some t, op, ty, p, af, some (j, want)⟩ :: os) e s = (t < M.N ∧ AGuard M all Q ((all[j]?).bind (·.dst)) want t op os e s) := by
  rw [ARun_cons]; simp only [Option.some.injEq, forall_eq']; rfl
theorem AGuardE_bool (g : Nat) (want : Bool) (t : Nat) (op : Op) (os : List Oper) (e : Env) (s : S) (b : Bool) :
    AGuardE M all Q (.v (.bool b)) g want t op os e s = (if b = want then AStep M op (upd e g (.v (.bool want))) s (ARunC M all Q os (upd e g (.v (.bool want))) (some t)) else ARun M all Q os (put (upd e g (.v (.bool (!want)))) (some t) (.v undef)) s) := nr rfl
theorem AGuardE_tt (g : Nat) (t : Nat) (op : Op) (os : List Oper) (e : Env) (s : S) (h : e g = .v (.bool true)) : AGuardE M all Q (.v (.bool true)) g true t op os e s = AStep M op e s (ARunC M all Q os e (some t)) := by
  rw [AGuardE_bool, if_pos rfl, upd_self e g _ h]
theorem AGuardE_tuple (g : Nat) (want : Bool) (t : Nat) (op : Op) (os : List Oper) (e : Env) (s : S) (vs : Array Value) :
    AGuardE M all Q (.v (.tuple vs)) g want t op os e s = ARun M all Q os (put e (some t) (.v undef)) s := nr rfl
theorem AGuardE_undef (g : Nat) (want : Bool) (t : Nat) (op : Op) (os : List Oper) (e : Env) (s : S) :
    AGuardE M all Q (.v undef) g want t op os e s = ARun M all Q os (put e (some t) (.v undef)) s := nr rfl
theorem ARunC_eq (os : List Oper) (e : Env) (t : Option Nat) (d : D) (s : S) : ARunC M all Q os e t d s = ARun M all Q os (put e t d) s := nr rfl
end

theorem Fz_v (s : S) (x y : Value) : Fz s (.v x) (.v y) ↔ x = y := ⟨fun h => by cases h; rfl, fun h => h ▸ .v x⟩
theorem Fz_refl_sl (s : S) (k n : Nat) (row : Nat → Nat → D) (h : ∀ i j, i < n → j < k → Fz s (row i j) (row i j)) : Fz s (.sl k n row) (.sl k n row) := .sl k n row row h

def FzL (s : S) : List D → List D → Prop
  | [], [] => True
  | d :: ds, d' :: ds' => Fz s d d' ∧ FzL s ds ds'
  | _, _ => False
theorem FzL.len {s : S} : ∀ {ds ds' : List D}, FzL s ds ds' → ds.length = ds'.length
  | [], [], _ => rfl
  | d :: ds, d' :: ds', h => by simp [FzL.len h.2]
theorem FzL.get {s : S} : ∀ {ds ds' : List D}, FzL s ds ds' → ∀ (i : Nat) (d d' : D), ds[i]? = some d → ds'[i]? = some d' → Fz s d d'
  | d :: ds, d' :: ds', h, 0, x, y, hx, hy => by simp at hx hy; subst hx; subst hy; exact h.1
  | d :: ds, d' :: ds', h, i + 1, x, y, hx, hy => FzL.get h.2 i x y (by simpa using hx) (by simpa using hy)
theorem Fz_agg {s : S} {ds ds' : List D} (h : FzL s ds ds') : Fz s (.agg ds) (.agg ds') := .agg ds ds' h.len h.get
theorem Fz_tup {s : S} {ds ds' : List D} (h : FzL s ds ds') : Fz s (.tup ds) (.tup ds') := .tup ds ds' h.len h.get

def PuL : List D → Prop
  | [] => True
  | d :: ds => Pu d ∧ PuL ds
theorem PuL.mem : ∀ {ds : List D}, PuL ds → ∀ d ∈ ds, Pu d
  | d :: ds, h, x, hx => by
    rcases List.mem_cons.1 hx with rfl | hx
    · exact h.1
    · exact PuL.mem h.2 x hx
theorem Pu_agg {ds : List D} (h : PuL ds) : Pu (.agg ds) := .agg ds h.mem
theorem Pu_tup {ds : List D} (h : PuL ds) : Pu (.tup ds) := .tup ds h.mem
theorem Pu_fn {f : Fn} {ds : List D} (h : PuL ds) : Pu (.fn f ds) := .fn f ds h.mem

/-- What is frozen already stays as it is. -/
theorem Pu.fz {s : S} {d : D} (h : Pu d) : Fz s d d := by
  induction h with
  | any => exact .any _
  | v x => exact .v x
  | agg cs _ ih => exact .agg cs cs rfl fun i d d' h1 h2 => by rw [h1] at h2; cases h2; exact ih d (List.mem_of_getElem? h1)
  | tup cs _ ih => exact .tup cs cs rfl fun i d d' h1 h2 => by rw [h1] at h2; cases h2; exact ih d (List.mem_of_getElem? h1)
  | sl k n row _ ih => exact .sl k n row row ih
  | rp k row off _ ih => exact .rp k row row off ih
  | fn f cs _ ih => exact .fn f cs cs rfl fun i d d' h1 h2 => by rw [h1] at h2; cases h2; exact ih d (List.mem_of_getElem? h1)
  | ifc t d _ ih => exact .ifc t d d ih

theorem ite_cases {p : Prop} {_ : Decidable p} {A B : Prop} (h1 : p → A) (h2 : ¬ p → B) : if p then A else B := by
  split
  · exact h1 ‹_›
  · exact h2 ‹_›
theorem St_set_set (o : St) (f i : Nat) (B B' : Option SObj) : St.set (St.set o f i B) f i B' = St.set o f i B' := by
  funext f' i'; simp only [St.set]; split <;> rfl
/-- A function that hands back d, by its body. -/
theorem pure_of {M : Ctx} {f : FuncId} {fn : Func} {c : Code} {rs : List ResultVar} {args : List D} {d : D} (hg : ∀ g x, M.G g = some x → Pu x) (hf : M.P.funcs[f]? = some fn) (hb : fn.body = some c) (hrs : fn.results = rs.toArray) {nt : Nat} (hnt : fn.ntmps = nt)
    (hn : args.length ≤ nt) (ha : PuL args) (h : ∀ b, wpA { P := M.P, G := M.G, X := fun _ _ => False, N := nt, r := none, b := b } c (retA { P := M.P, G := M.G, X := fun _ _ => False, N := M.N, r := M.r, b := M.b } rs fun d' s' => Fz s' d' d) (initE args) S0) : APure M f args d :=
  apure_of ha.mem hg (acall_ofA (M := { M with X := fun _ _ => False }) hf hb hrs hnt hn h)

theorem call_at {M : Ctx} {P : Program} {G : Nat → Option D} {X : D → Value → Prop} {N : Nat} {r : Option Nat} {b : Nat} {f : FuncId} {args : List D} {d : D} {s : S} {K : D → S → Prop} (hP : M.P = P) (hG : M.G = G) (h : APure M f args d) (hk : K d s) :
    ACall { P := P, G := G, X := X, N := N, r := r, b := b } f args s K := h { P := P, G := G, X := X, N := N, r := r, b := b } hP.symm hG.symm s K hk

/-- The parts of an append, without a word that takes a function. -/
def srcOf (y : D) (s : S) (k : Nat) : Option (Prop × Nat × (Nat → Nat → D)) :=
  match y with
  | .v (.slice none 0 0) => some (True, 0, fun _ _ => .any)
  | .sl k' m row => some (k' = k, m, row)
  | .ms f i k' lo m =>
    match s.o f i with
    | some (.blk k'' n _ cell) => some ((k' = k ∧ k'' = k ∧ lo + m ≤ n), m, fun r c => cell (lo + r) c)
    | _ => none
  | _ => none
def baseOf (x : D) (s : S) (k : Nat) (e : TypeId) : Option (Prop × Nat × (Nat → Nat → D) × S) :=
  match x with
  | .v (.slice none 0 0) => some (True, 0, (fun _ _ => .any), s)
  | .ms f i k' lo len =>
    match s.o f i with
    | some (.blk k'' n ty cell) => some ((lo = 0 ∧ k' = k ∧ k'' = k ∧ n = len ∧ ty = e), len, cell, s.kill f i)
    | _ => none
  | _ => none
theorem aAppend_eq (P : Program) (t : TypeId) (x y : D) (s : S) (K : D → S → Prop) : aAppend P t x y s K =
    match tEl P t with
    | none => False
    | some x0 =>
      match srcOf y s x0.k, baseOf x s x0.k x0.e with
      | some (p, m, src), some (q, len, cell, s') => (p ∧ q ∧ (len + m) * x0.by_ ≤ 140737488355328 ∧ len + m ≤ 9223372036854775807) ∧ K (.ms s'.nx 0 x0.k 0 (len + m)) (s'.push (.blk x0.k (len + m) x0.e (appC cell len src)))
      | _, _ => False := by
  unfold aAppend
  cases htl : tEl P t with
  | none => rfl
  | some x0 =>
  have hb : ∀ (R : Nat → (Nat → Nat → D) → S → Prop), aBase x s x0.k x0.e R = match baseOf x s x0.k x0.e with | some (q, len, cell, s') => q ∧ R len cell s' | none => False := by
    intro R
    unfold aBase baseOf
    split
    · simp
    · rename_i f i _ _ _
      cases hB : s.o f i with
      | none => simp [hB]
      | some B => cases B <;> simp [hB]
    · split <;> simp_all
  have hs : ∀ (R : Nat → (Nat → Nat → D) → Prop), aSrc y s x0.k R = match srcOf y s x0.k with | some (p, m, src) => p ∧ R m src | none => False := by
    intro R
    unfold aSrc srcOf
    split
    · simp
    · rfl
    · rename_i f i _ _ _
      cases hB : s.o f i with
      | none => simp [hB]
      | some B => cases B <;> simp [hB]
    · split <;> simp_all
  simp only []
  rw [hs]
  simp only [hb]
  cases srcOf y s x0.k with
  | none => rfl
  | some a =>
    obtain ⟨p, m, src⟩ := a
    cases baseOf x s x0.k x0.e with
    | none => simp
    | some b =>
      obtain ⟨q, len, cell, s'⟩ := b
      simp only [and_assoc]

def ACond (d : D) (A B : Prop) : Prop :=
  match d with
  | .v (.bool t) => if t = true then A else B
  | _ => False
def LoopOn (Inv : Nat → Env → S → Prop) (n : Nat) (e : Env) (s : S) : Prop := ∃ m, m < n ∧ Inv m e s
def KOf (K : D → S → Prop) (s : S) (ds : List D) : Prop := K (oneOr ds) s
def KCons (K : List D → Prop) (d : D) (ds : List D) : Prop := K (d :: ds)
def KRes (M : Ctx) (rs : List ResultVar) (e : Env) (s : S) (K : List D → Prop) (d : D) (_ : S) : Prop := resD M rs e s (KCons K d)
def APick (c a b : D) (s : S) (K : D → S → Prop) : Prop :=
  match c with
  | .v (.bool q) => K (pickD q a b) s
  | _ => False
def ABuildN (P : Program) (t : TypeId) (ps : List (Nat × D)) (s : S) (K : D → S → Prop) : Prop := (ps ≠ [] ∨ (tPlace P t 0).isSome = true) ∧ aBuild P t ps s K
def evParts (G : Nat → Option D) (e : Env) (ps : List (Nat × Operand)) : List (Nat × D) := ps.map fun x => (x.1, ev G e x.2)
def evL (G : Nat → Option D) (e : Env) (xs : List Operand) : List D := xs.map (ev G e)
def ANil (d : D) (s : S) (K : D → S → Prop) : Prop :=
  match d with
  | .mp f i k r c => K (.mp f i k r c) s
  | .rp k row off => K (.rp k row off) s
  | .fn (.func f) caps => K (.fn (.func f) caps) s
  | _ => False
def ACallF (M : Ctx) (f : D) (args : List D) (s : S) (K : D → S → Prop) : Prop :=
  match f with
  | .fn (.func g) caps => callable M.P g = true ∧ ACall M g (args ++ caps) s K
  | .fn (.yield l) caps => caps = [] ∧ ARound M l args s K
  | _ => False
def offRow (row : Nat → D) (off : Nat) : Nat → D := fun j => row (off + j)
def ALookT (m : Option (TypeDesc × Value)) (f i : Nat) (k : Value) (s : S) (K : D → S → Prop) : Prop :=
  match m with
  | some (d, z) => aLookE z (s.o f i) d k s K
  | none => False
def ALookT2 (m : Option (TypeDesc × Value)) (f i : Nat) (k : Value) (s : S) (K : D → S → Prop) : Prop :=
  match m with
  | some (d, z) => aLookE2 z (s.o f i) d k s K
  | none => False
def APutT (m : Option (TypeDesc × Value)) (f i : Nat) (k : Value) (x : D) (s : S) (K : S → Prop) : Prop :=
  match m with
  | some (d, _) => aPutE (s.o f i) f i d k x s K
  | none => False
def ALoadO (ag : Bool) (n : Nat) (o : Option SObj) (k r c : Nat) (s : S) (K : D → S → Prop) : Prop :=
  match o with
  | some (.blk k' m _ cell) => (k' = k ∧ r < m ∧ c + n ≤ k ∧ (ag = false → n = 1)) ∧ K (mkv ag n (offRow (cell r) c)) s
  | _ => False
def ALoadL (l : Option (Bool × Nat)) (p : D) (s : S) (K : D → S → Prop) : Prop :=
  match l with
  | none => False
  | some (ag, n) =>
    match p with
    | .rp k row off => (off + n ≤ k ∧ (ag = false → n = 1)) ∧ K (mkv ag n (offRow row off)) s
    | .mp f i k r c => ALoadO ag n (s.o f i) k r c s K
    | _ => False
def AFldL (l : Option Nat) (p : D) (s : S) (K : D → S → Prop) : Prop :=
  match l with
  | none => False
  | some o =>
    match p with
    | .rp k row off => K (.rp k row (off + o)) s
    | .mp f i k r c => K (.mp f i k r (c + o)) s
    | _ => False
def AIdxA (l : Option (Nat × Nat)) (x : D) (i : Int) (s : S) (K : D → S → Prop) : Prop :=
  match l with
  | some (n, es) =>
    match x with
    | .mp f j k r c => (0 ≤ i ∧ i < n) ∧ K (.mp f j k r (c + i.toNat * es)) s
    | .rp k row o => (0 ≤ i ∧ i < n) ∧ K (.rp k row (o + i.toNat * es)) s
    | _ => False
  | none => False
def AIdxL (P : Program) (t : TypeId) (l : Option Nat) (x : D) (i : Int) (s : S) (K : D → S → Prop) : Prop :=
  match l with
  | some k' =>
    match x with
    | .sl k n row => (k = k' ∧ 0 ≤ i ∧ i < n) ∧ K (.rp k (row i.toNat) 0) s
    | .ms f j k lo len => (k = k' ∧ 0 ≤ i ∧ i < len) ∧ K (.mp f j k (lo + i.toNat) 0) s
    | _ => False
  | none => AIdxA (tArr P t) x i s K
def ABoxC (t : TypeId) (cs : Option (List D)) (s : S) (K : D → S → Prop) : Prop :=
  match cs with
  | some cs => K (.mp s.nx 0 cs.length 0 0) (s.newVar t cs)
  | none => False
def takeL : Nat → List D → List D
  | 0, _ => []
  | n + 1, [] => .any :: takeL n []
  | n + 1, c :: cs => c :: takeL n cs
theorem tab_takeL : ∀ (n i : Nat) (cs : List D), tab n i (rowOf cs 0) = takeL n (cs.drop i)
  | 0, _, _ => rfl
  | n + 1, i, cs => by
    show rowOf cs 0 i :: tab n (i + 1) (rowOf cs 0) = _
    rw [tab_takeL n (i + 1) cs]
    by_cases h : i < cs.length
    · rw [List.drop_eq_getElem_cons h]; simp [rowOf, takeL, h]
    · rw [List.drop_eq_nil_of_le (Nat.le_of_not_lt h), List.drop_eq_nil_of_le (by omega)]; simp [rowOf, takeL, Nat.le_of_not_lt h]
theorem mkv_rowOf (n : Nat) (cs : List D) (o : Nat) : mkv true n (offRow (rowOf cs 0) o) = .agg (takeL n (cs.drop o)) := by
  have : offRow (rowOf cs 0) o = rowOf (cs.drop o) 0 := by funext j; simp [offRow, rowOf]
  rw [this]; show D.agg (tab n 0 (rowOf (cs.drop o) 0)) = _
  rw [tab_takeL]; simp
/-- A store into a variable's cells. -/
theorem setC_rowOf (cs : List D) (c : Nat) (ds : List D) (h : c + ds.length ≤ cs.length) : setC (rowOf cs) 0 c ds = rowOf (splice c cs ds) := by
  funext r j
  by_cases hr : r = 0
  · subst hr
    simp only [setC, rowOf, if_true, true_and, List.getD_eq_getElem?_getD, splice_get c cs ds j h]
    split <;> rfl
  · simp [setC, rowOf, hr]
def litL (zs : List Value) : List D := zs.map D.v
def AAllocZ (t : TypeId) (zs : Option (List Value)) (s : S) (K : D → S → Prop) : Prop :=
  match zs with
  | some zs => K (.mp s.nx 0 (litL zs).length 0 0) (s.newVar t (litL zs))
  | none => False
def AStoreO (n : Nat) (o : Option SObj) (f i k r c : Nat) (cs : Option (List D)) (s : S) (K : S → Prop) : Prop :=
  match o with
  | some (.blk k' m ty cell) =>
    match cs with
    | some cs => (k' = k ∧ r < m ∧ c + n ≤ k ∧ cs.length = n) ∧ K (s.put f i (.blk k m ty (setC cell r c cs)))
    | none => False
  | _ => False
def AStoreL (l : Option (Bool × Nat)) (p : D) (cs : Option (List D)) (s : S) (K : S → Prop) : Prop :=
  match l with
  | none => False
  | some (_, n) =>
    match p with
    | .mp f i k r c => AStoreO n (s.o f i) f i k r c cs s K
    | _ => False
def ABinE (op : BinOp) (r : Option Bool) (s : S) (K : D → S → Prop) : Prop :=
  match r with
  | some r =>
    match op with
    | .eql => K (.v (.bool r)) s
    | .neq => K (.v (.bool (!r))) s
    | _ => False
  | none => False
def ABinA (P : Program) (op : BinOp) (t : TypeId) (sh : Option (List Sc)) (cs ds : List D) (s : S) (K : D → S → Prop) : Prop :=
  match sh with
  | some sh => P.eqGuardType P.depth t = false ∧ (tKind P t = 7 ∨ tKind P t = 8) ∧ ABinE op (eqCells sh cs ds) s K
  | none => False
def andO (a : Bool) (r : Option Bool) : Option Bool := r.map (a && ·)
def AConvK (j k : Option IntKind) (x : D) (s : S) (K : D → S → Prop) : Prop :=
  match j, k, x with
  | some _, some k, .v (.int _ n) => K (.v (.int k (k.wrap n))) s
  | _, _, _ => False
def ABuildF (cs : Option (List D)) (s : S) (K : D → S → Prop) : Prop :=
  match cs with
  | some cs => K (.agg cs) s
  | none => False
def ABuildZ (P : Program) (t : TypeId) (zs : Option (List Value)) (ps : List (Nat × D)) (s : S) (K : D → S → Prop) : Prop :=
  match zs with
  | some zs => ABuildF (fillD P t (litL zs) ps) s K
  | none => False
def AFill (P : Program) (t : TypeId) (cs : List D) (pl : Option (Nat × Nat)) (ds : Option (List D)) (rest : List (Nat × D)) : Option (List D) :=
  match pl, ds with
  | some (off, size), some ds => if ds.length = size ∧ off + ds.length ≤ cs.length then fillD P t (splice off cs ds) rest else none
  | _, _ => none
def APart (k i : Nat) (ds : Option (List D)) (r : Option (List (Nat × List D))) : Option (List (Nat × List D)) :=
  match ds, r with
  | some ds, some r => if ds.length = k then some ((i, ds) :: r) else none
  | _, _ => none
def ABSliceP (len : Nat) (x : ElemInfo) (parts : List (Nat × D)) (ps : Option (List (Nat × List D))) (s : S) (K : D → S → Prop) : Prop :=
  match ps with
  | some ps => (len * x.k ≤ 16777216 ∧ parts.all (fun p => p.1 < len) = true ∧ (ps.map (·.1)).Nodup) ∧ K (.ms s.nx 0 x.k 0 len) (s.push (.blk x.k len x.e (litCell x.zs ps)))
  | none => False
def ABSliceE (len : Nat) (x : Option ElemInfo) (ps : List (Nat × D)) (s : S) (K : D → S → Prop) : Prop :=
  match x with
  | some x => ABSliceP len x ps (partsCells x.k ps) s K
  | none => False
def zeroRow (zs : List Value) : Nat → Nat → D := fun _ j => .v (zs.getD j undef)
def AMakeE (x : Option ElemInfo) (l c : Int) (s : S) (K : D → S → Prop) : Prop :=
  match x with
  | some x => (0 ≤ l ∧ l ≤ c ∧ x.by_ * c ≤ 281474976710656 ∧ c ≤ 9223372036854775807) ∧ K (.ms s.nx 0 x.k 0 l.toNat) (s.push (.blk x.k l.toNat x.e (zeroRow x.zs)))
  | none => False
def noObj : St := fun _ _ => none
def anyRow : Nat → Nat → D := fun _ _ => .any
def rowsFrom (cell : Nat → Nat → D) (lo : Nat) : Nat → Nat → D := fun r c => cell (lo + r) c
def srcO (o : Option SObj) (k' k lo m : Nat) : Option (Prop × Nat × (Nat → Nat → D)) :=
  match o with
  | some (.blk k'' n _ cell) => some ((k' = k ∧ k'' = k ∧ lo + m ≤ n), m, rowsFrom cell lo)
  | _ => none
def baseO (o : Option SObj) (f i k' k lo len : Nat) (e : TypeId) (s : S) : Option (Prop × Nat × (Nat → Nat → D) × S) :=
  match o with
  | some (.blk k'' n ty cell) => some ((lo = 0 ∧ k' = k ∧ k'' = k ∧ n = len ∧ ty = e), len, cell, s.kill f i)
  | _ => none
def AApp (x0 : ElemInfo) (a : Option (Prop × Nat × (Nat → Nat → D))) (b : Option (Prop × Nat × (Nat → Nat → D) × S)) (K : D → S → Prop) : Prop :=
  match a, b with
  | some (p, m, src), some (q, len, cell, s') => (p ∧ q ∧ (len + m) * x0.by_ ≤ 140737488355328 ∧ len + m ≤ 9223372036854775807) ∧ K (.ms s'.nx 0 x0.k 0 (len + m)) (s'.push (.blk x0.k (len + m) x0.e (appC cell len src)))
  | _, _ => False
def AAppE (x0 : Option ElemInfo) (x y : D) (s : S) (K : D → S → Prop) : Prop :=
  match x0 with
  | some x0 => AApp x0 (srcOf y s x0.k) (baseOf x s x0.k x0.e) K
  | none => False

theorem arr_getD' (l : List Operand) (i : Nat) (d : Operand) : l.toArray.getD i d = l.getD i d := by simp [Array.getD_eq_getD_getElem?, List.getD]
theorem arr_getD'' (l : List TypeId) (i : Nat) (d : TypeId) : l.toArray.getD i d = l.getD i d := by simp [Array.getD_eq_getD_getElem?, List.getD]

namespace Eqs
@[go_sem] theorem q0 (M : Ctx) (Q : Exit → Env → S → Prop) (e : Env) (s : S) : wpA M .skip Q e s = Q .normal e s := nr (rfl)
@[go_sem] theorem q1 (M : Ctx) (Q : Exit → Env → S → Prop) (e : Env) (s : S) (a b : Code) : wpA M (.seq a b) Q e s = wpA M a (thenA (wpA M b) Q) e s := nr (rfl)
@[go_sem] theorem q2 (M : Ctx) (Q : Exit → Env → S → Prop) (e : Env) (s : S) (c : Operand) (a b : Code) : wpA M (.cond c a b) Q e s = ACond (ev M.G e c) (wpA M a Q e s) (wpA M b Q e s) := nr (rfl)
@[go_sem] theorem q3 (t : Bool) (A B : Prop) : ACond (.v (.bool t)) A B = (if t = true then A else B) := nr (rfl)
@[go_sem] theorem q4 (M : Ctx) (Q : Exit → Env → S → Prop) (e : Env) (s : S) (id : Nat) (c : Code) : wpA M (.block id c) Q e s = wpA M c (blockA id Q) e s := nr (rfl)
@[go_sem] theorem q5 (M : Ctx) (Q : Exit → Env → S → Prop) (e : Env) (s : S) (id : Nat) : wpA M (.exit id) Q e s = Q (.exit id) e s := nr (rfl)
@[go_sem] theorem q6 (M : Ctx) (Q : Exit → Env → S → Prop) (e : Env) (s : S) : wpA M .ret Q e s = Q .ret e s := nr (rfl)
@[go_sem] theorem q7 (M : Ctx) (Q : Exit → Env → S → Prop) (e : Env) (s : S) (l : Nat) : wpA M (.label l) Q e s = Q .normal e s := nr (rfl)
@[go_sem] theorem q8 (M : Ctx) (Q : Exit → Env → S → Prop) (e : Env) (s : S) (l : Nat) : wpA M (.goto l) Q e s = Q (.goto l) e s := nr (rfl)
@[go_sem] theorem q9 (M : Ctx) (Q : Exit → Env → S → Prop) (e : Env) (s : S) (id : Nat) (ops : Array Oper) : wpA M (.region id ops false) Q e s = ARun M ops (Q .normal) ops.toList e s := nr (rfl)
@[go_sem] theorem q10 (M : Ctx) (Q : Exit → Env → S → Prop) (e : Env) (s : S) (id : Nat) (ops : Array Oper) : wpA M (.region id ops true) Q e s = AWp M (.region id ops true) Q e s := nr (rfl)
@[go_sem] theorem q11 (M : Ctx) (Q : Exit → Env → S → Prop) (e : Env) (s : S) (c : Code) : wpA M (.loop c) Q e s = AWp M (.loop c) Q e s := nr (rfl)
@[go_sem] theorem q12 (M : Ctx) (Q : Exit → Env → S → Prop) (e : Env) (s : S) (g : Operand) (ps : Array Tmp) (x c : Code) : wpA M (.rangeFunc g ps x c) Q e s = AWp M (.rangeFunc g ps x c) Q e s := nr (rfl)
@[go_sem] theorem q13 (M : Ctx) (Q : Exit → Env → S → Prop) (e : Env) (s : S) (c : Code) : wpA M (.scope c) Q e s = wpA M c (noGotoA Q) e s := nr (rfl)
@[go_sem] theorem q14 (wp : (Exit → Env → S → Prop) → Env → S → Prop) (Q : Exit → Env → S → Prop) (e : Env) (s : S) : thenA wp Q .normal e s = wp Q e s := nr (rfl)
@[go_sem] theorem q15 (wp : (Exit → Env → S → Prop) → Env → S → Prop) (Q : Exit → Env → S → Prop) (e : Env) (s : S) : thenA wp Q .ret e s = Q .ret e s := nr (rfl)
@[go_sem] theorem q16 (wp : (Exit → Env → S → Prop) → Env → S → Prop) (Q : Exit → Env → S → Prop) (e : Env) (s : S) (id : Nat) : thenA wp Q (.exit id) e s = Q (.exit id) e s := nr (rfl)
@[go_sem] theorem q17 (wp : (Exit → Env → S → Prop) → Env → S → Prop) (Q : Exit → Env → S → Prop) (e : Env) (s : S) (id : Nat) : thenA wp Q (.goto id) e s = Q (.goto id) e s := nr (rfl)
@[go_sem] theorem q18 (Q : Exit → Env → S → Prop) (e : Env) (s : S) (id id' : Nat) : blockA id Q (.exit id') e s = (if id' = id then Q .normal e s else Q (.exit id') e s) := nr (rfl)
@[go_sem] theorem q19 (Q : Exit → Env → S → Prop) (e : Env) (s : S) : noGotoA Q .normal e s = Q .normal e s := nr (rfl)
@[go_sem] theorem q20 (Q : Exit → Env → S → Prop) (e : Env) (s : S) : noGotoA Q .ret e s = Q .ret e s := nr (rfl)
@[go_sem] theorem q21 (Q : Exit → Env → S → Prop) (e : Env) (s : S) (id : Nat) : noGotoA Q (.exit id) e s = Q (.exit id) e s := nr (rfl)
@[go_sem] theorem q22 (Q : Exit → Env → S → Prop) (e : Env) (s : S) (id : Nat) : noGotoA Q (.goto id) e s = False := nr (rfl)
@[go_sem] theorem q23 (Q : Exit → Env → S → Prop) (e : Env) (s : S) (id : Nat) : blockA id Q .normal e s = Q .normal e s := nr (rfl)
@[go_sem] theorem q24 (Q : Exit → Env → S → Prop) (e : Env) (s : S) (id : Nat) : blockA id Q .ret e s = Q .ret e s := nr (rfl)
@[go_sem] theorem q25 (Q : Exit → Env → S → Prop) (e : Env) (s : S) (id l : Nat) : blockA id Q (.goto l) e s = Q (.goto l) e s := nr (rfl)
@[go_sem] theorem q26 (Inv : Nat → Env → S → Prop) (n : Nat) (Q : Exit → Env → S → Prop) (e : Env) (s : S) : loopA Inv n Q .normal e s = LoopOn Inv n e s := nr (rfl)
@[go_sem] theorem q27 (Inv : Nat → Env → S → Prop) (n : Nat) (Q : Exit → Env → S → Prop) (e : Env) (s : S) : loopA Inv n Q .ret e s = Q .ret e s := nr (rfl)
@[go_sem] theorem q28 (Inv : Nat → Env → S → Prop) (n : Nat) (Q : Exit → Env → S → Prop) (e : Env) (s : S) (id : Nat) : loopA Inv n Q (.exit id) e s = Q (.exit id) e s := nr (rfl)
@[go_sem] theorem q29 (Inv : Nat → Env → S → Prop) (n : Nat) (Q : Exit → Env → S → Prop) (e : Env) (s : S) (id : Nat) : loopA Inv n Q (.goto id) e s = Q (.goto id) e s := nr (rfl)
@[go_sem] theorem q30 (M : Ctx) (K : D → S → Prop) (e : Env) (s : S) (rs : List ResultVar) : retA M rs K .normal e s = resD M rs e s (KOf K s) := nr (rfl)
@[go_sem] theorem q31 (M : Ctx) (K : D → S → Prop) (e : Env) (s : S) (rs : List ResultVar) : retA M rs K .ret e s = resD M rs e s (KOf K s) := nr (rfl)
@[go_sem] theorem q32 (K : D → S → Prop) (s : S) (ds : List D) : KOf K s ds = K (oneOr ds) s := nr (rfl)
@[go_sem] theorem q33 (d : D) : oneOr [d] = d := nr (rfl)
@[go_sem] theorem q34  : oneOr [] = .tup [] := nr (rfl)
@[go_sem] theorem q35 (a b : D) (ds : List D) : oneOr (a :: b :: ds) = .tup (a :: b :: ds) := nr (rfl)
@[go_sem] theorem q36 (M : Ctx) (e : Env) (s : S) (K : List D → Prop) : resD M [] e s K = K [] := nr (rfl)
@[go_sem] theorem q37 (M : Ctx) (e : Env) (s : S) (K : List D → Prop) (t : Nat) (rs : List ResultVar) : resD M (.tmp t :: rs) e s K = resD M rs e s (KCons K (e t)) := nr (rfl)
@[go_sem] theorem q38 (K : List D → Prop) (d : D) (ds : List D) : KCons K d ds = K (d :: ds) := nr (rfl)
@[go_sem] theorem q39 (M : Ctx) (e : Env) (s : S) (K : List D → Prop) (t ty : Nat) (rs : List ResultVar) : resD M (.cell t ty :: rs) e s K = aLoad M.P ty (e t) s (KRes M rs e s K) := nr (rfl)
@[go_sem] theorem q40 (M : Ctx) (rs : List ResultVar) (e : Env) (s : S) (K : List D → Prop) (d : D) (s' : S) : KRes M rs e s K d s' = resD M rs e s (KCons K d) := nr (rfl)
@[go_sem] theorem q41 (M : Ctx) (e : Env) (s : S) (K : D → S → Prop) (x : Operand) : AStep M (.move x) e s K = K (ev M.G e x) s := nr (rfl)
@[go_sem] theorem q42 (M : Ctx) (e : Env) (s : S) (K : D → S → Prop) (x : Operand) : AStep M (.assign x) e s K = K (ev M.G e x) s := nr (rfl)
@[go_sem] theorem q43 (M : Ctx) (e : Env) (s : S) (K : D → S → Prop) (c a b : Operand) : AStep M (.pick c a b) e s K = APick (ev M.G e c) (ev M.G e a) (ev M.G e b) s K := nr (rfl)
@[go_sem] theorem q44 (q : Bool) (a b : D) (s : S) (K : D → S → Prop) : APick (.v (.bool q)) a b s K = K (pickD q a b) s := nr (rfl)
@[go_sem] theorem q45 (M : Ctx) (e : Env) (s : S) (K : D → S → Prop) (t : Nat) : AStep M (.alloc t) e s K = aAlloc M.P t s K := nr (rfl)
@[go_sem] theorem q46 (M : Ctx) (e : Env) (s : S) (K : D → S → Prop) (t : Nat) (x : Operand) : AStep M (.box t x) e s K = aBox t (ev M.G e x) s K := nr (rfl)
@[go_sem] theorem q47 (M : Ctx) (e : Env) (s : S) (K : D → S → Prop) (t : Nat) (parts : Array (Nat × Operand)) : AStep M (.build t parts) e s K = ABuildN M.P t (evParts M.G e parts.toList) s K := nr (rfl)
@[go_sem] theorem q48 (P : Program) (t : Nat) (p : Nat × D) (ps : List (Nat × D)) (s : S) (K : D → S → Prop) : ABuildN P t (p :: ps) s K = aBuild P t (p :: ps) s K := nr (by simp [ABuildN])
@[go_sem] theorem q49 (P : Program) (t : Nat) (s : S) (K : D → S → Prop) : ABuildN P t [] s K = ((tPlace P t 0).isSome = true ∧ aBuild P t [] s K) := nr (by simp [ABuildN])
@[go_sem] theorem q50 (G : Nat → Option D) (e : Env) : evParts G e [] = [] := nr (rfl)
@[go_sem] theorem q51 (G : Nat → Option D) (e : Env) (i : Nat) (x : Operand) (ps : List (Nat × Operand)) : evParts G e ((i, x) :: ps) = (i, ev G e x) :: evParts G e ps := nr (rfl)
@[go_sem] theorem q52 (M : Ctx) (e : Env) (s : S) (K : D → S → Prop) (t len : Nat) (parts : Array (Nat × Operand)) : AStep M (.buildSlice t len parts) e s K = aBuildSlice M.P t len (evParts M.G e parts.toList) s K := nr (rfl)
@[go_sem] theorem q53 (M : Ctx) (e : Env) (s : S) (K : D → S → Prop) (t : Nat) (l c : Operand) : AStep M (.makeSlice t l c) e s K = aMake M.P t (ev M.G e l) (ev M.G e c) s K := nr (rfl)
@[go_sem] theorem q54 (M : Ctx) (e : Env) (s : S) (K : D → S → Prop) (t : Nat) (x : Operand) : AStep M (.load t x) e s K = aLoad M.P t (ev M.G e x) s K := nr (rfl)
@[go_sem] theorem q55 (M : Ctx) (e : Env) (s : S) (K : D → S → Prop) (t : Nat) (p x : Operand) : AStep M (.store t p x) e s K = aStore M.P t (ev M.G e p) (ev M.G e x) s (K (.v undef)) := nr (rfl)
@[go_sem] theorem q56 (M : Ctx) (e : Env) (s : S) (K : D → S → Prop) (t : Nat) (x : Operand) (f : Nat) : AStep M (.fieldAddr t x f) e s K = aFld M.P t (ev M.G e x) f s K := nr (rfl)
@[go_sem] theorem q57 (M : Ctx) (e : Env) (s : S) (K : D → S → Prop) (t : Nat) (x i : Operand) : AStep M (.indexAddr t x i) e s K = aIdx M.P t (ev M.G e x) (ev M.G e i) s K := nr (rfl)
@[go_sem] theorem q58 (M : Ctx) (e : Env) (s : S) (K : D → S → Prop) (t : Nat) (x i : Operand) : AStep M (.index t x i) e s K = aIndex M.P t (ev M.G e x) (ev M.G e i) s K := nr (rfl)
@[go_sem] theorem q59 (P : Program) (t : Nat) (b : ByteArray) (k : IntKind) (n : Int) (s : S) (K : D → S → Prop) : aIndex P t (.v (.string b)) (.v (.int k n)) s K = ((tKind P t = 2 ∧ 0 ≤ n ∧ n < b.size) ∧ K (.v (.int .u8 ((b.data.getD n.toNat 0).toNat : Int))) s) := nr (rfl)
@[go_sem] theorem q60 (M : Ctx) (e : Env) (s : S) (K : D → S → Prop) (op : BinOp) (t : Nat) (x y : Operand) (t' : Nat) : AStep M (.binOp op t x y t') e s K = aBin M.P op t (ev M.G e x) (ev M.G e y) s K := nr (rfl)
@[go_sem] theorem q61 (M : Ctx) (e : Env) (s : S) (K : D → S → Prop) (op : UnOp) (t : Nat) (x : Operand) : AStep M (.unOp op t x) e s K = aUn op (ev M.G e x) s K := nr (rfl)
@[go_sem] theorem q62 (M : Ctx) (e : Env) (s : S) (K : D → S → Prop) (x : Operand) (i : Nat) : AStep M (.extract x i) e s K = aExtract (ev M.G e x) i s K := nr (rfl)
@[go_sem] theorem q63 (M : Ctx) (e : Env) (s : S) (K : D → S → Prop) (f : Fn) (caps : Array Operand) : AStep M (.makeFunc f #[] caps) e s K = K (.fn f (evL M.G e caps.toList)) s := nr (by simp [AStep, evL])
@[go_sem] theorem q64 (G : Nat → Option D) (e : Env) : evL G e [] = [] := nr (rfl)
@[go_sem] theorem q65 (G : Nat → Option D) (e : Env) (x : Operand) (xs : List Operand) : evL G e (x :: xs) = ev G e x :: evL G e xs := nr (rfl)
@[go_sem] theorem q66 (M : Ctx) (e : Env) (s : S) (K : D → S → Prop) (x : Operand) : AStep M (.nilCheck x) e s K = ANil (ev M.G e x) s K := nr (rfl)
@[go_sem] theorem q67 (f i k r c : Nat) (s : S) (K : D → S → Prop) : ANil (.mp f i k r c) s K = K (.mp f i k r c) s := nr (rfl)
@[go_sem] theorem q68 (k : Nat) (row : Nat → D) (off : Nat) (s : S) (K : D → S → Prop) : ANil (.rp k row off) s K = K (.rp k row off) s := nr (rfl)
@[go_sem] theorem q69 (f : Nat) (caps : List D) (s : S) (K : D → S → Prop) : ANil (.fn (.func f) caps) s K = K (.fn (.func f) caps) s := nr (rfl)
@[go_sem] theorem q70 (M : Ctx) (e : Env) (s : S) (K : D → S → Prop) (a b : Nat) (x : Operand) : AStep M (.convert a b x) e s K = aConv M.P a b (ev M.G e x) s K := nr (rfl)
@[go_sem] theorem q71 (M : Ctx) (e : Env) (s : S) (K : D → S → Prop) (f : Operand) (args : Array Operand) (ts : Array TypeId) : AStep M (.call ⟨.value f, args, ts⟩) e s K = ACallF M (ev M.G e f) (evL M.G e args.toList) s K := nr (rfl)
@[go_sem] theorem q72 (M : Ctx) (e : Env) (s : S) (K : D → S → Prop) (t : Nat) : AStep M (.makeMap t none) e s K = aMap s K := nr (by simp [AStep])
@[go_sem] theorem q73 (M : Ctx) (e : Env) (s : S) (K : D → S → Prop) (t : Nat) (m k : Operand) (ok : Bool) : AStep M (.lookup t m k ok) e s K = aLook M.P t (ev M.G e m) (ev M.G e k) ok s K := nr (rfl)
@[go_sem] theorem q74 (M : Ctx) (e : Env) (s : S) (K : D → S → Prop) (t : Nat) (m k v : Operand) : AStep M (.mapUpdate t m k v) e s K = aPut M.P t (ev M.G e m) (ev M.G e k) (ev M.G e v) s (K (.v undef)) := nr (rfl)
@[go_sem] theorem q75 (o : St) (nx : Nat) (K : D → S → Prop) : aMap ⟨o, nx⟩ K = K (.mm nx 0) ⟨St.set o nx 0 (some (.mapo [])), nx + 1⟩ := nr (rfl)
@[go_sem] theorem q76 (z : Value) (es : List (Value × D)) (d : TypeDesc) (k : Value) (s : S) (K : D → S → Prop) : aLookE z (some (.mapo es)) d k s K = ((isKeyB d k = true ∧ ∀ e ∈ es, isKeyB d e.1 = true) ∧ K ((mfind k es).getD (zD z)) s) := nr (rfl)
@[go_sem] theorem q77 (es : List (Value × D)) (f i : Nat) (d : TypeDesc) (k : Value) (x : D) (s : S) (K : S → Prop) : aPutE (some (.mapo es)) f i d k x s K = ((isKeyB d k = true ∧ ∀ e ∈ es, isKeyB d e.1 = true) ∧ K (s.put f i (.mapo (mput k x es)))) := nr (rfl)
@[go_sem] theorem q78 (P : Program) (t f i : Nat) (k : Value) (s : S) (K : D → S → Prop) : aLook P t (.mm f i) (.v k) false s K = ALookT (tMap P t) f i k s K := nr (rfl)
@[go_sem] theorem q79 (d : TypeDesc) (z : Value) (f i : Nat) (k : Value) (s : S) (K : D → S → Prop) : ALookT (some (d, z)) f i k s K = aLookE z (s.o f i) d k s K := nr (rfl)
@[go_sem] theorem q80 (z : Value) (es : List (Value × D)) (d : TypeDesc) (k : Value) (s : S) (K : D → S → Prop) : aLookE2 z (some (.mapo es)) d k s K = ((isKeyB d k = true ∧ ∀ e ∈ es, isKeyB d e.1 = true) ∧ K (.tup [(mfind k es).getD (zD z), .v (.bool (mfind k es).isSome)]) s) := nr (rfl)
@[go_sem] theorem q81 (P : Program) (t f i : Nat) (k : Value) (s : S) (K : D → S → Prop) : aLook P t (.mm f i) (.v k) true s K = ALookT2 (tMap P t) f i k s K := nr (rfl)
@[go_sem] theorem q82 (d : TypeDesc) (z : Value) (f i : Nat) (k : Value) (s : S) (K : D → S → Prop) : ALookT2 (some (d, z)) f i k s K = aLookE2 z (s.o f i) d k s K := nr (rfl)
@[go_sem] theorem q83 (P : Program) (t f i : Nat) (k : Value) (x : D) (s : S) (K : S → Prop) : aPut P t (.mm f i) (.v k) x s K = APutT (tMap P t) f i k x s K := nr (rfl)
@[go_sem] theorem q84 (d : TypeDesc) (z : Value) (f i : Nat) (k : Value) (x : D) (s : S) (K : S → Prop) : APutT (some (d, z)) f i k x s K = aPutE (s.o f i) f i d k x s K := nr (rfl)
@[go_sem] theorem q85 (b : Bool) : zD (.bool b) = .v (.bool b) := nr (rfl)
@[go_sem] theorem q86 (k : IntKind) (n : Int) : zD (.int k n) = .v (.int k n) := nr (rfl)
@[go_sem] theorem q87 (b : ByteArray) : zD (.string b) = .v (.string b) := nr (rfl)
@[go_sem] theorem q88 (l : List Value) : zD (.agg ⟨l⟩) = cond (l.all Value.oneCell') (.agg (mapV l)) (.v (.agg ⟨l⟩)) := nr (rfl)
@[go_sem] theorem q89  : mapV [] = [] := nr (rfl)
@[go_sem] theorem q90 (x : Value) (l : List Value) : mapV (x :: l) = .v x :: mapV l := nr (rfl)
@[go_sem] theorem q91 (k : IntKind) (n : Int) : Value.oneCell' (.int k n) = true := nr (rfl)
@[go_sem] theorem q92 (b : Bool) : Value.oneCell' (.bool b) = true := nr (rfl)
@[go_sem] theorem q93 (b : ByteArray) : Value.oneCell' (.string b) = true := nr (rfl)
@[go_sem] theorem q94  : Value.oneCell' .nilFunc = true := nr (rfl)
@[go_sem] theorem q95 (a : Option Addr) (b c : Nat) : Value.oneCell' (.slice a b c) = true := nr (rfl)
@[go_sem] theorem q96 (b : ByteArray) : isKeyB .string (.string b) = true := nr (rfl)
@[go_sem] theorem q97 (k : IntKind) (n : Int) : isKeyB (.int k) (.int k n) = (k == k) := nr (rfl)
@[go_sem] theorem q98 (M : Ctx) (g : Nat) (caps args : List D) (s : S) (K : D → S → Prop) : ACallF M (.fn (.func g) caps) args s K = (callable M.P g = true ∧ ACall M g (args ++ caps) s K) := nr (rfl)
@[go_sem] theorem q99 (M : Ctx) (l : Nat) (args : List D) (s : S) (K : D → S → Prop) : ACallF M (.fn (.yield l) []) args s K = ARound M l args s K := nr (by simp [ACallF])
@[go_sem] theorem q100 (M : Ctx) (e : Env) (s : S) (K : D → S → Prop) (x : Operand) (t : Nat) : AStep M (.call ⟨.builtin .len, #[x], #[t]⟩) e s K = aLen M.P t (ev M.G e x) 1 1 s K := nr (rfl)
@[go_sem] theorem q101 (M : Ctx) (e : Env) (s : S) (K : D → S → Prop) (x y : Operand) (t : Nat) : AStep M (.call ⟨.builtin .append, #[x, y], #[t, t]⟩) e s K = aAppend M.P t (ev M.G e x) (ev M.G e y) s K := nr (by simp [AStep, aCallOp])
@[go_sem] theorem q102 (M : Ctx) (e : Env) (s : S) (K : D → S → Prop) (x y : Operand) (t u : Nat) : AStep M (.call ⟨.builtin .max, #[x, y], #[t, u]⟩) e s K = aTwo true (ev M.G e x) (ev M.G e y) s K := nr (by simp [AStep, aCallOp])
@[go_sem] theorem q103 (M : Ctx) (e : Env) (s : S) (K : D → S → Prop) (x y : Operand) (t u : Nat) : AStep M (.call ⟨.builtin .min, #[x, y], #[t, u]⟩) e s K = aTwo false (ev M.G e x) (ev M.G e y) s K := nr (by simp [AStep, aCallOp])
@[go_sem] theorem q104 (k k2 : IntKind) (a b : Int) (s : S) (K : D → S → Prop) : aTwo true (.v (.int k a)) (.v (.int k2 b)) s K = K (.v (.int k (max a b))) s := nr (rfl)
@[go_sem] theorem q105 (k k2 : IntKind) (a b : Int) (s : S) (K : D → S → Prop) : aTwo false (.v (.int k a)) (.v (.int k2 b)) s K = K (.v (.int k (min a b))) s := nr (rfl)
@[go_sem] theorem q106 (G : Nat → Option D) (e : Env) (t : Nat) : ev G e (.tmp t) = e t := nr (rfl)
@[go_sem] theorem q107 (G : Nat → Option D) (e : Env) (v : Value) : ev G e (.const v) = .v v := nr (rfl)
@[go_sem] theorem q108 (G : Nat → Option D) (e : Env) (g : Nat) : ev G e (.global g) = (G g).getD .any := nr (rfl)
@[go_sem] theorem q109 (G : Nat → Option D) (e : Env) (f : Nat) : ev G e (.func f) = .fn (.func f) [] := nr (rfl)
@[go_sem] theorem q110 (q x y : Bool) : pickD q (.v (.bool x)) (.v (.bool y)) = .v (.bool (cond q x y)) := nr (rfl)
@[go_sem] theorem q111 (x y : D) : pickD true x y = x := nr (by unfold pickD; split <;> simp)
@[go_sem] theorem q112 (x y : D) : pickD false x y = y := nr (by unfold pickD; split <;> simp)
@[go_sem] theorem q113 (cs : List D) : D.cells? (.agg cs) = some cs := nr (rfl)
@[go_sem] theorem q114 (k : IntKind) (n : Int) : D.cells? (.v (.int k n)) = some [.v (.int k n)] := nr (rfl)
@[go_sem] theorem q115 (b : Bool) : D.cells? (.v (.bool b)) = some [.v (.bool b)] := nr (rfl)
@[go_sem] theorem q116 (b : ByteArray) : D.cells? (.v (.string b)) = some [.v (.string b)] := nr (rfl)
@[go_sem] theorem q117 (a : Option Addr) (n c : Nat) : D.cells? (.v (.slice a n c)) = some [.v (.slice a n c)] := nr (rfl)
@[go_sem] theorem q118  : D.cells? (.v .nilFunc) = some [.v .nilFunc] := nr (rfl)
@[go_sem] theorem q119 (a : Option Addr) : D.cells? (.v (.pointer a)) = some [.v (.pointer a)] := nr (rfl)
@[go_sem] theorem q120 (k n : Nat) (row : Nat → Nat → D) : D.cells? (.sl k n row) = some [.sl k n row] := nr (rfl)
@[go_sem] theorem q121 (k : Nat) (row : Nat → D) (o : Nat) : D.cells? (.rp k row o) = some [.rp k row o] := nr (rfl)
@[go_sem] theorem q122 (f i k r c : Nat) : D.cells? (.mp f i k r c) = some [.mp f i k r c] := nr (rfl)
@[go_sem] theorem q123 (f i k lo n : Nat) : D.cells? (.ms f i k lo n) = some [.ms f i k lo n] := nr (rfl)
@[go_sem] theorem q124 (f : Fn) (cs : List D) : D.cells? (.fn f cs) = some [.fn f cs] := nr (rfl)
@[go_sem] theorem q125 (f i : Nat) : D.cells? (.mm f i) = some [.mm f i] := nr (rfl)
@[go_sem] theorem q126 (t : Nat) (d : D) : D.cells? (.ifc t d) = some [.ifc t d] := nr (rfl)
@[go_sem] theorem q127 (P : Program) (t : Nat) (p : D) (s : S) (K : D → S → Prop) : aLoad P t p s K = ALoadL (tLay P t) p s K := nr (rfl)
@[go_sem] theorem q128 (ag : Bool) (n k : Nat) (row : Nat → D) (off : Nat) (s : S) (K : D → S → Prop) : ALoadL (some (ag, n)) (.rp k row off) s K = ((off + n ≤ k ∧ (ag = false → n = 1)) ∧ K (mkv ag n (offRow row off)) s) := nr (rfl)
@[go_sem] theorem q129 (ag : Bool) (n f i k r c : Nat) (s : S) (K : D → S → Prop) : ALoadL (some (ag, n)) (.mp f i k r c) s K = ALoadO ag n (s.o f i) k r c s K := nr (rfl)
@[go_sem] theorem q130 (ag : Bool) (n k' m ty : Nat) (cell : Nat → Nat → D) (k r c : Nat) (s : S) (K : D → S → Prop) : ALoadO ag n (some (.blk k' m ty cell)) k r c s K = ((k' = k ∧ r < m ∧ c + n ≤ k ∧ (ag = false → n = 1)) ∧ K (mkv ag n (offRow (cell r) c)) s) := nr (rfl)
@[go_sem] theorem q131 (row : Nat → D) (off j : Nat) : offRow row off j = row (off + j) := nr (rfl)
@[go_sem] theorem q132 (n : Nat) (f : Nat → D) : mkv true n f = .agg (tab n 0 f) := nr (rfl)
@[go_sem] theorem q133 (n : Nat) (f : Nat → D) : mkv false n f = f 0 := nr (rfl)
@[go_sem] theorem q134 (n : Nat) (cs : List D) (o : Nat) : mkv true n (offRow (rowOf cs 0) o) = .agg (takeL n (cs.drop o)) := nr (mkv_rowOf n cs o)
@[go_sem] theorem q135 (cs : List D) : takeL 0 cs = [] := nr (rfl)
@[go_sem] theorem q136 (n : Nat) (c : D) (cs : List D) : takeL (n + 1) (c :: cs) = c :: takeL n cs := nr (rfl)
@[go_sem] theorem q137 (i : Nat) (f : Nat → D) : tab 0 i f = [] := nr (rfl)
@[go_sem] theorem q138 (n i : Nat) (f : Nat → D) : tab (n + 1) i f = f i :: tab n (i + 1) f := nr (rfl)
@[go_sem] theorem q139 (P : Program) (t : Nat) (p : D) (f : Nat) (s : S) (K : D → S → Prop) : aFld P t p f s K = AFldL (tFld P t f) p s K := nr (rfl)
@[go_sem] theorem q140 (o k : Nat) (row : Nat → D) (off : Nat) (s : S) (K : D → S → Prop) : AFldL (some o) (.rp k row off) s K = K (.rp k row (off + o)) s := nr (rfl)
@[go_sem] theorem q141 (o f i k r c : Nat) (s : S) (K : D → S → Prop) : AFldL (some o) (.mp f i k r c) s K = K (.mp f i k r (c + o)) s := nr (rfl)
@[go_sem] theorem q142 (P : Program) (t : Nat) (x : D) (kd : IntKind) (i : Int) (s : S) (K : D → S → Prop) : aIdx P t x (.v (.int kd i)) s K = AIdxL P t (tElem P t) x i s K := nr (rfl)
@[go_sem] theorem q143 (P : Program) (t : Nat) (k' k n : Nat) (row : Nat → Nat → D) (i : Int) (s : S) (K : D → S → Prop) : AIdxL P t (some k') (.sl k n row) i s K = ((k = k' ∧ 0 ≤ i ∧ i < n) ∧ K (.rp k (row i.toNat) 0) s) := nr (rfl)
@[go_sem] theorem q144 (P : Program) (t : Nat) (k' f j k lo n : Nat) (i : Int) (s : S) (K : D → S → Prop) : AIdxL P t (some k') (.ms f j k lo n) i s K = ((k = k' ∧ 0 ≤ i ∧ i < n) ∧ K (.mp f j k (lo + i.toNat) 0) s) := nr (rfl)
@[go_sem] theorem q145 (P : Program) (t : Nat) (x : D) (i : Int) (s : S) (K : D → S → Prop) : AIdxL P t none x i s K = AIdxA (tArr P t) x i s K := nr (rfl)
@[go_sem] theorem q146 (n es f j k r c : Nat) (i : Int) (s : S) (K : D → S → Prop) : AIdxA (some (n, es)) (.mp f j k r c) i s K = ((0 ≤ i ∧ i < n) ∧ K (.mp f j k r (c + i.toNat * es)) s) := nr (rfl)
@[go_sem] theorem q147 (n es k : Nat) (row : Nat → D) (o : Nat) (i : Int) (s : S) (K : D → S → Prop) : AIdxA (some (n, es)) (.rp k row o) i s K = ((0 ≤ i ∧ i < n) ∧ K (.rp k row (o + i.toNat * es)) s) := nr (rfl)
@[go_sem] theorem q148 (t : Nat) (d : D) (s : S) (K : D → S → Prop) : aBox t d s K = ABoxC t d.cells? s K := nr (rfl)
@[go_sem] theorem q149 (t : Nat) (cs : List D) (s : S) (K : D → S → Prop) : ABoxC t (some cs) s K = K (.mp s.nx 0 cs.length 0 0) (s.newVar t cs) := nr (rfl)
@[go_sem] theorem q150 (P : Program) (t : Nat) (s : S) (K : D → S → Prop) : aAlloc P t s K = AAllocZ t (tZ P t) s K := nr (rfl)
@[go_sem] theorem q151 (t : Nat) (zs : List Value) (s : S) (K : D → S → Prop) : AAllocZ t (some zs) s K = K (.mp s.nx 0 (litL zs).length 0 0) (s.newVar t (litL zs)) := nr (rfl)
@[go_sem] theorem q152  : litL [] = [] := nr (rfl)
@[go_sem] theorem q153 (z : Value) (zs : List Value) : litL (z :: zs) = D.v z :: litL zs := nr (rfl)
@[go_sem] theorem q154 (P : Program) (t : Nat) (p d : D) (s : S) (K : S → Prop) : aStore P t p d s K = AStoreL (tLay P t) p d.cells? s K := nr (rfl)
@[go_sem] theorem q155 (ag : Bool) (n f i k r c : Nat) (cs : Option (List D)) (s : S) (K : S → Prop) : AStoreL (some (ag, n)) (.mp f i k r c) cs s K = AStoreO n (s.o f i) f i k r c cs s K := nr (rfl)
@[go_sem] theorem q156 (n k' m ty : Nat) (cell : Nat → Nat → D) (f i k r c : Nat) (cs : List D) (s : S) (K : S → Prop) : AStoreO n (some (.blk k' m ty cell)) f i k r c (some cs) s K = ((k' = k ∧ r < m ∧ c + n ≤ k ∧ cs.length = n) ∧ K (s.put f i (.blk k m ty (setC cell r c cs)))) := nr (rfl)
@[go_sem] theorem q157 (P : Program) (t : Nat) (k : IntKind) (a b : Int) (s : S) (K : D → S → Prop) : aBin P .add t (.v (.int k a)) (.v (.int k b)) s K = K (.v (.int k (k.wrap (a + b)))) s := nr (by simp [aBin, intBin])
@[go_sem] theorem q158 (P : Program) (t : Nat) (k : IntKind) (a b : Int) (s : S) (K : D → S → Prop) : aBin P .sub t (.v (.int k a)) (.v (.int k b)) s K = K (.v (.int k (k.wrap (a - b)))) s := nr (by simp [aBin, intBin])
@[go_sem] theorem q159 (P : Program) (t : Nat) (k : IntKind) (a b : Int) (s : S) (K : D → S → Prop) : aBin P .mul t (.v (.int k a)) (.v (.int k b)) s K = K (.v (.int k (k.wrap (a * b)))) s := nr (by simp [aBin, intBin])
@[go_sem] theorem q160 (P : Program) (t : Nat) (k : IntKind) (a b : Int) (s : S) (K : D → S → Prop) : aBin P .eql t (.v (.int k a)) (.v (.int k b)) s K = K (.v (.bool (a == b))) s := nr (by simp [aBin, intBin])
@[go_sem] theorem q161 (P : Program) (t : Nat) (k : IntKind) (a b : Int) (s : S) (K : D → S → Prop) : aBin P .neq t (.v (.int k a)) (.v (.int k b)) s K = K (.v (.bool (a != b))) s := nr (by simp [aBin, intBin])
@[go_sem] theorem q162 (P : Program) (t : Nat) (k : IntKind) (a b : Int) (s : S) (K : D → S → Prop) : aBin P .lss t (.v (.int k a)) (.v (.int k b)) s K = K (.v (.bool (decide (a < b)))) s := nr (by simp [aBin, intBin])
@[go_sem] theorem q163 (P : Program) (t : Nat) (k : IntKind) (a b : Int) (s : S) (K : D → S → Prop) : aBin P .leq t (.v (.int k a)) (.v (.int k b)) s K = K (.v (.bool (decide (a ≤ b)))) s := nr (by simp [aBin, intBin])
@[go_sem] theorem q164 (P : Program) (t : Nat) (k : IntKind) (a b : Int) (s : S) (K : D → S → Prop) : aBin P .gtr t (.v (.int k a)) (.v (.int k b)) s K = K (.v (.bool (decide (b < a)))) s := nr (by simp [aBin, intBin])
@[go_sem] theorem q165 (P : Program) (t : Nat) (k : IntKind) (a b : Int) (s : S) (K : D → S → Prop) : aBin P .geq t (.v (.int k a)) (.v (.int k b)) s K = K (.v (.bool (decide (b ≤ a)))) s := nr (by simp [aBin, intBin])
@[go_sem] theorem q166 (P : Program) (t : Nat) (k : IntKind) (a b : Int) (s : S) (K : D → S → Prop) : aBin P .shr t (.v (.int k a)) (.v (.int k b)) s K = ((0 ≤ b ∧ b.toNat ≤ k.bits) ∧ K (.v (.int k (a.fdiv (2 ^ b.toNat)))) s) := nr (by unfold aBin intBin; by_cases hb : 0 ≤ b ∧ b.toNat ≤ k.bits <;> simp only [hb, if_true, if_false, true_and, false_and, and_self, and_false])
@[go_sem] theorem q167 (P : Program) (t : Nat) (k : IntKind) (a b : Int) (s : S) (K : D → S → Prop) : aBin P .quo t (.v (.int k a)) (.v (.int k b)) s K = (b ≠ 0 ∧ K (.v (.int k (k.wrap (a.tdiv b)))) s) := nr (by by_cases hb : b = 0 <;> simp [aBin, intBin, hb])
@[go_sem] theorem q168 (P : Program) (t : Nat) (k : IntKind) (a b : Int) (s : S) (K : D → S → Prop) : aBin P .rem t (.v (.int k a)) (.v (.int k b)) s K = (b ≠ 0 ∧ K (.v (.int k (a.tmod b))) s) := nr (by by_cases hb : b = 0 <;> simp [aBin, intBin, hb])
@[go_sem] theorem q169 (P : Program) (t : Nat) (a b : Bool) (s : S) (K : D → S → Prop) : aBin P .eql t (.v (.bool a)) (.v (.bool b)) s K = (tKind P t = 5 ∧ K (.v (.bool (a == b))) s) := nr (rfl)
@[go_sem] theorem q170 (P : Program) (t : Nat) (a b : Bool) (s : S) (K : D → S → Prop) : aBin P .neq t (.v (.bool a)) (.v (.bool b)) s K = (tKind P t = 5 ∧ K (.v (.bool (!(a == b)))) s) := nr (rfl)
@[go_sem] theorem q171 (P : Program) (t : Nat) (a b : ByteArray) (s : S) (K : D → S → Prop) : aBin P .eql t (.v (.string a)) (.v (.string b)) s K = K (.v (.bool (a.toList == b.toList))) s := nr (rfl)
@[go_sem] theorem q172 (P : Program) (t : Nat) (a b : ByteArray) (s : S) (K : D → S → Prop) : aBin P .neq t (.v (.string a)) (.v (.string b)) s K = K (.v (.bool (!(a.toList == b.toList)))) s := nr (rfl)
@[go_sem] theorem q173 (P : Program) (op : BinOp) (t : Nat) (cs ds : List D) (s : S) (K : D → S → Prop) : aBin P op t (.agg cs) (.agg ds) s K = ABinA P op t (eqShape P 10000 t) cs ds s K := nr (rfl)
@[go_sem] theorem q174 (P : Program) (op : BinOp) (t : Nat) (sh : List Sc) (cs ds : List D) (s : S) (K : D → S → Prop) : ABinA P op t (some sh) cs ds s K = (P.eqGuardType P.depth t = false ∧ (tKind P t = 7 ∨ tKind P t = 8) ∧ ABinE op (eqCells sh cs ds) s K) := nr (rfl)
@[go_sem] theorem q175 (r : Bool) (s : S) (K : D → S → Prop) : ABinE .eql (some r) s K = K (.v (.bool r)) s := nr (rfl)
@[go_sem] theorem q176 (r : Bool) (s : S) (K : D → S → Prop) : ABinE .neq (some r) s K = K (.v (.bool (!r))) s := nr (rfl)
@[go_sem] theorem q177 (P : Program) (t : Nat) (k n : Nat) (row : Nat → Nat → D) (s : S) (K : D → S → Prop) : aBin P .eql t (.sl k n row) (.v (.slice none 0 0)) s K = (tKind P t = 1 ∧ ∀ q : Bool, (q = true → n = 0) → K (.v (.bool q)) s) := nr (rfl)
@[go_sem] theorem q178 (P : Program) (t : Nat) (f i k lo n : Nat) (s : S) (K : D → S → Prop) : aBin P .eql t (.ms f i k lo n) (.v (.slice none 0 0)) s K = (tKind P t = 1 ∧ ∀ q : Bool, (q = true → n = 0) → K (.v (.bool q)) s) := nr (rfl)
@[go_sem] theorem q179 (P : Program) (t : Nat) (s : S) (K : D → S → Prop) : aBin P .eql t (.v (.slice none 0 0)) (.v (.slice none 0 0)) s K = (tKind P t = 1 ∧ K (.v (.bool true)) s) := nr (rfl)
@[go_sem] theorem q180 (P : Program) (t : Nat) (s : S) (K : D → S → Prop) : aBin P .eql t (.v (.pointer none)) (.v (.pointer none)) s K = (tKind P t = 6 ∧ K (.v (.bool true)) s) := nr (rfl)
@[go_sem] theorem q181 (P : Program) (t : Nat) (f i k r c : Nat) (s : S) (K : D → S → Prop) : aBin P .eql t (.mp f i k r c) (.v (.pointer none)) s K = (tKind P t = 6 ∧ K (.v (.bool false)) s) := nr (rfl)
@[go_sem] theorem q182 (P : Program) (t : Nat) (f : Fn) (cs : List D) (s : S) (K : D → S → Prop) : aBin P .eql t (.fn f cs) (.v .nilFunc) s K = (tKind P t = 4 ∧ K (.v (.bool false)) s) := nr (rfl)
@[go_sem] theorem q183 (P : Program) (t : Nat) (k n : Nat) (row : Nat → Nat → D) (s : S) (K : D → S → Prop) : aBin P .neq t (.sl k n row) (.v (.slice none 0 0)) s K = (tKind P t = 1 ∧ ∀ q : Bool, (q = true → n = 0) → K (.v (.bool (!q))) s) := nr (rfl)
@[go_sem] theorem q184 (P : Program) (t : Nat) (f i k lo n : Nat) (s : S) (K : D → S → Prop) : aBin P .neq t (.ms f i k lo n) (.v (.slice none 0 0)) s K = (tKind P t = 1 ∧ ∀ q : Bool, (q = true → n = 0) → K (.v (.bool (!q))) s) := nr (rfl)
@[go_sem] theorem q185 (P : Program) (t : Nat) (s : S) (K : D → S → Prop) : aBin P .neq t (.v (.slice none 0 0)) (.v (.slice none 0 0)) s K = (tKind P t = 1 ∧ K (.v (.bool false)) s) := nr (rfl)
@[go_sem] theorem q186 (P : Program) (t : Nat) (s : S) (K : D → S → Prop) : aBin P .neq t (.v (.pointer none)) (.v (.pointer none)) s K = (tKind P t = 6 ∧ K (.v (.bool false)) s) := nr (rfl)
@[go_sem] theorem q187 (P : Program) (t : Nat) (f i k r c : Nat) (s : S) (K : D → S → Prop) : aBin P .neq t (.mp f i k r c) (.v (.pointer none)) s K = (tKind P t = 6 ∧ K (.v (.bool true)) s) := nr (rfl)
@[go_sem] theorem q188 (P : Program) (t : Nat) (f : Fn) (cs : List D) (s : S) (K : D → S → Prop) : aBin P .neq t (.fn f cs) (.v .nilFunc) s K = (tKind P t = 4 ∧ K (.v (.bool true)) s) := nr (rfl)
@[go_sem] theorem q189  : eqCells [] [] [] = some true := nr (rfl)
@[go_sem] theorem q190 (k : IntKind) (a b : Int) (sh : List Sc) (cs ds : List D) : eqCells (.i k :: sh) (.v (.int k a) :: cs) (.v (.int k b) :: ds) = andO (a == b) (eqCells sh cs ds) := nr (by simp [eqCells]; cases eqCells sh cs ds <;> rfl)
@[go_sem] theorem q191 (a b : Bool) (sh : List Sc) (cs ds : List D) : eqCells (.b :: sh) (.v (.bool a) :: cs) (.v (.bool b) :: ds) = andO (a == b) (eqCells sh cs ds) := nr (rfl)
@[go_sem] theorem q192 (a b : ByteArray) (sh : List Sc) (cs ds : List D) : eqCells (.s :: sh) (.v (.string a) :: cs) (.v (.string b) :: ds) = andO (a.toList == b.toList) (eqCells sh cs ds) := nr (rfl)
@[go_sem] theorem q193 (a b : Bool) : andO a (some b) = some (a && b) := nr (rfl)
@[go_sem] theorem q194 (b : Bool) (s : S) (K : D → S → Prop) : aUn .not (.v (.bool b)) s K = K (.v (.bool (!b))) s := nr (rfl)
@[go_sem] theorem q195 (k : IntKind) (n : Int) (s : S) (K : D → S → Prop) : aUn .neg (.v (.int k n)) s K = K (.v (.int k (k.wrap (0 - n)))) s := nr (rfl)
@[go_sem] theorem q196 (cs : List D) (i : Nat) (s : S) (K : D → S → Prop) : aExtract (.tup cs) i s K = (i < cs.length ∧ K (cs.getD i .any) s) := nr (rfl)
@[go_sem] theorem q197 (P : Program) (t : Nat) (k n : Nat) (row : Nat → Nat → D) (s : S) (K : D → S → Prop) : aLen P t (.sl k n row) 1 1 s K = (tKind P t = 1 ∧ K (.v (.int .i64 n)) s) := nr (by simp [aLen])
@[go_sem] theorem q198 (P : Program) (t : Nat) (f i k lo n : Nat) (s : S) (K : D → S → Prop) : aLen P t (.ms f i k lo n) 1 1 s K = (tKind P t = 1 ∧ K (.v (.int .i64 n)) s) := nr (by simp [aLen])
@[go_sem] theorem q199 (P : Program) (t : Nat) (s : S) (K : D → S → Prop) : aLen P t (.v (.slice none 0 0)) 1 1 s K = (tKind P t = 1 ∧ K (.v (.int .i64 0)) s) := nr (by simp [aLen])
@[go_sem] theorem q200 (P : Program) (t : Nat) (b : ByteArray) (s : S) (K : D → S → Prop) : aLen P t (.v (.string b)) 1 1 s K = (tKind P t = 2 ∧ K (.v (.int .i64 b.size)) s) := nr (by simp [aLen])
@[go_sem] theorem q201 (P : Program) (a b : Nat) (x : D) (s : S) (K : D → S → Prop) : aConv P a b x s K = AConvK (tInt P a) (tInt P b) x s K := nr (rfl)
@[go_sem] theorem q202 (j k q : IntKind) (n : Int) (s : S) (K : D → S → Prop) : AConvK (some j) (some k) (.v (.int q n)) s K = K (.v (.int k (k.wrap n))) s := nr (rfl)
@[go_sem] theorem q203 (P : Program) (t : Nat) (ps : List (Nat × D)) (s : S) (K : D → S → Prop) : aBuild P t ps s K = ABuildZ P t (tZ P t) ps s K := nr (rfl)
@[go_sem] theorem q204 (P : Program) (t : Nat) (zs : List Value) (ps : List (Nat × D)) (s : S) (K : D → S → Prop) : ABuildZ P t (some zs) ps s K = ABuildF (fillD P t (litL zs) ps) s K := nr (rfl)
@[go_sem] theorem q205 (cs : List D) (s : S) (K : D → S → Prop) : ABuildF (some cs) s K = K (.agg cs) s := nr (rfl)
@[go_sem] theorem q206 (P : Program) (t : Nat) (cs : List D) : fillD P t cs [] = some cs := nr (rfl)
@[go_sem] theorem q207 (P : Program) (t : Nat) (cs : List D) (i : Nat) (d : D) (rest : List (Nat × D)) : fillD P t cs ((i, d) :: rest) = AFill P t cs (tPlace P t i) d.cells? rest := nr (rfl)
@[go_sem] theorem q208 (P : Program) (t : Nat) (cs : List D) (off size : Nat) (ds : List D) (rest : List (Nat × D)) : AFill P t cs (some (off, size)) (some ds) rest = (if ds.length = size ∧ off + ds.length ≤ cs.length then fillD P t (splice off cs ds) rest else none) := nr (rfl)
@[go_sem] theorem q209 (d c : D) (ds cs : List D) : over (d :: ds) (c :: cs) = d :: over ds cs := nr (rfl)
@[go_sem] theorem q210 (cs : List D) : over [] cs = cs := nr (rfl)
@[go_sem] theorem q211 (cs ds : List D) : splice 0 cs ds = over ds cs := nr (rfl)
@[go_sem] theorem q212 (n : Nat) (c : D) (cs ds : List D) : splice (n + 1) (c :: cs) ds = c :: splice n cs ds := nr (rfl)
@[go_sem] theorem q213 (P : Program) (t : Nat) (len : Nat) (ps : List (Nat × D)) (s : S) (K : D → S → Prop) : aBuildSlice P t len ps s K = ABSliceE len (tEl P t) ps s K := nr (rfl)
@[go_sem] theorem q214 (len : Nat) (x : ElemInfo) (ps : List (Nat × D)) (s : S) (K : D → S → Prop) : ABSliceE len (some x) ps s K = ABSliceP len x ps (partsCells x.k ps) s K := nr (rfl)
@[go_sem] theorem q215 (len : Nat) (x : ElemInfo) (parts : List (Nat × D)) (ps : List (Nat × List D)) (s : S) (K : D → S → Prop) : ABSliceP len x parts (some ps) s K = ((len * x.k ≤ 16777216 ∧ parts.all (fun p => p.1 < len) = true ∧ (ps.map (·.1)).Nodup) ∧ K (.ms s.nx 0 x.k 0 len) (s.push (.blk x.k len x.e (litCell x.zs ps)))) := nr (rfl)
@[go_sem] theorem q216 (k : Nat) : partsCells k [] = some [] := nr (rfl)
@[go_sem] theorem q217 (k i : Nat) (d : D) (rest : List (Nat × D)) : partsCells k ((i, d) :: rest) = APart k i d.cells? (partsCells k rest) := nr (rfl)
@[go_sem] theorem q218 (k i : Nat) (ds : List D) (r : List (Nat × List D)) : APart k i (some ds) (some r) = (if ds.length = k then some ((i, ds) :: r) else none) := nr (rfl)
@[go_sem] theorem q219 (zs : List Value) (r c : Nat) : litCell zs [] r c = .v (zs.getD c undef) := nr (rfl)
@[go_sem] theorem q220 (zs : List Value) (i : Nat) (ds : List D) (rest : List (Nat × List D)) (r c : Nat) : litCell zs ((i, ds) :: rest) r c = (if r = i then ds.getD c .any else litCell zs rest r c) := nr (rfl)
@[go_sem] theorem q221 (P : Program) (t : Nat) (a b : IntKind) (l c : Int) (s : S) (K : D → S → Prop) : aMake P t (.v (.int a l)) (.v (.int b c)) s K = AMakeE (tEl P t) l c s K := nr (by unfold aMake AMakeE; cases tEl P t <;> rfl)
@[go_sem] theorem q222 (x : ElemInfo) (l c : Int) (s : S) (K : D → S → Prop) : AMakeE (some x) l c s K = ((0 ≤ l ∧ l ≤ c ∧ x.by_ * c ≤ 281474976710656 ∧ c ≤ 9223372036854775807) ∧ K (.ms s.nx 0 x.k 0 l.toNat) (s.push (.blk x.k l.toNat x.e (zeroRow x.zs)))) := nr (rfl)
@[go_sem] theorem q223 (zs : List Value) (r j : Nat) : zeroRow zs r j = .v (zs.getD j undef) := nr (rfl)
@[go_sem] theorem q224 (o : St) (nx : Nat) (B : SObj) : S.push ⟨o, nx⟩ B = ⟨St.set o nx 0 (some B), nx + 1⟩ := nr (rfl)
@[go_sem] theorem q225 (o : St) (nx t : Nat) (cs : List D) : S.newVar ⟨o, nx⟩ t cs = ⟨St.set o nx 0 (some (.blk cs.length 1 t (rowOf cs))), nx + 1⟩ := nr (rfl)
@[go_sem] theorem q226 (o : St) (nx f i : Nat) (B : SObj) : S.put ⟨o, nx⟩ f i B = ⟨St.set o f i (some B), nx⟩ := nr (rfl)
@[go_sem] theorem q227 (o : St) (nx f i : Nat) : S.kill ⟨o, nx⟩ f i = ⟨St.set o f i none, nx⟩ := nr (rfl)
@[go_sem] theorem q228 (e : Env) (t : Nat) (d : D) : put e (some t) d = upd e t d := nr (rfl)
@[go_sem] theorem q229 (e : Env) (d : D) : put e none d = e := nr (rfl)
@[go_sem] theorem q230 (e : Env) (t : Nat) (d : D) (j : Nat) : upd e t d j = (if j = t then d else e j) := nr (rfl)
@[go_sem] theorem q231 (o : St) (f i : Nat) (B : Option SObj) (f' i' : Nat) : St.set o f i B f' i' = (if f' = f ∧ i' = i then B else o f' i') := nr (rfl)
@[go_sem] theorem q232 (cell : Nat → Nat → D) (r c : Nat) (cs : List D) (r' c' : Nat) : setC cell r c cs r' c' = (if r' = r ∧ c ≤ c' ∧ c' < c + cs.length then cs.getD (c' - c) .any else cell r' c') := nr (rfl)
@[go_sem] theorem q233 (cs : List D) (c : Nat) : rowOf cs 0 c = cs.getD c .any := nr (rfl)
@[go_sem] theorem q234 (args : List D) (t : Nat) : initE args t = args.getD t (.v undef) := nr (rfl)
@[go_sem] theorem q235  : S0 = ⟨noObj, 0⟩ := nr (rfl)
@[go_sem] theorem q236 (f i : Nat) : noObj f i = none := nr (rfl)
@[go_sem] theorem q237 (cell : Nat → Nat → D) (n : Nat) (src : Nat → Nat → D) (r c : Nat) : appC cell n src r c = (if r < n then cell r c else src (r - n) c) := nr (rfl)
@[go_sem] theorem q238 (s : S) (k : Nat) : srcOf (.v (.slice none 0 0)) s k = some (True, 0, anyRow) := nr (rfl)
@[go_sem] theorem q239 (k' m : Nat) (row : Nat → Nat → D) (s : S) (k : Nat) : srcOf (.sl k' m row) s k = some (k' = k, m, row) := nr (rfl)
@[go_sem] theorem q240 (f i k' lo m : Nat) (s : S) (k : Nat) : srcOf (.ms f i k' lo m) s k = srcO (s.o f i) k' k lo m := nr (rfl)
@[go_sem] theorem q241 (k'' n ty : Nat) (cell : Nat → Nat → D) (k' k lo m : Nat) : srcO (some (.blk k'' n ty cell)) k' k lo m = some ((k' = k ∧ k'' = k ∧ lo + m ≤ n), m, rowsFrom cell lo) := nr (rfl)
@[go_sem] theorem q242 (cell : Nat → Nat → D) (lo r c : Nat) : rowsFrom cell lo r c = cell (lo + r) c := nr (rfl)
@[go_sem] theorem q243 (s : S) (k e : Nat) : baseOf (.v (.slice none 0 0)) s k e = some (True, 0, anyRow, s) := nr (rfl)
@[go_sem] theorem q244 (f i k' lo n : Nat) (s : S) (k e : Nat) : baseOf (.ms f i k' lo n) s k e = baseO (s.o f i) f i k' k lo n e s := nr (rfl)
@[go_sem] theorem q245 (k'' n ty : Nat) (cell : Nat → Nat → D) (f i k' k lo len e : Nat) (s : S) : baseO (some (.blk k'' n ty cell)) f i k' k lo len e s = some ((lo = 0 ∧ k' = k ∧ k'' = k ∧ n = len ∧ ty = e), len, cell, s.kill f i) := nr (rfl)
@[go_sem] theorem q246 (P : Program) (t : Nat) (x y : D) (s : S) (K : D → S → Prop) : aAppend P t x y s K = AAppE (tEl P t) x y s K := nr (by rw [aAppend_eq]; unfold AAppE AApp; cases tEl P t with | none => rfl | some x0 => rfl)
@[go_sem] theorem q247 (x0 : ElemInfo) (x y : D) (s : S) (K : D → S → Prop) : AAppE (some x0) x y s K = AApp x0 (srcOf y s x0.k) (baseOf x s x0.k x0.e) K := nr (rfl)
@[go_sem] theorem q248 (x0 : ElemInfo) (p : Prop) (m : Nat) (src : Nat → Nat → D) (q : Prop) (len : Nat) (cell : Nat → Nat → D) (s' : S) (K : D → S → Prop) : AApp x0 (some (p, m, src)) (some (q, len, cell, s')) K = ((p ∧ q ∧ (len + m) * x0.by_ ≤ 140737488355328 ∧ len + m ≤ 9223372036854775807) ∧ K (.ms s'.nx 0 x0.k 0 (len + m)) (s'.push (.blk x0.k (len + m) x0.e (appC cell len src)))) := nr (rfl)
@[go_sem] theorem q249 (M : Ctx) (e : Env) (s : S) (K : D → S → Prop) (t : Nat) (x : Operand) (lo hi mx : Option Operand) : AStep M (.slice t x lo hi mx) e s K = (mx = none ∧ aSlice M.P t (ev M.G e x) (evO M.G e lo) (evO M.G e hi) s K) := nr (rfl)
@[go_sem] theorem q250 (G : Nat → Option D) (e : Env) : evO G e none = none := nr (rfl)
@[go_sem] theorem q251 (G : Nat → Option D) (e : Env) (x : Operand) : evO G e (some x) = some (ev G e x) := nr (rfl)
@[go_sem] theorem q252 (P : Program) (t : Nat) (x : D) (lo hi : Option D) (s : S) (K : D → S → Prop) : aSlice P t x lo hi s K = ASliceL (tElem P t) x lo hi s K := nr (rfl)
@[go_sem] theorem q253 (k' k n : Nat) (row : Nat → Nat → D) (lo hi : Option D) (s : S) (K : D → S → Prop) : ASliceL (some k') (.sl k n row) lo hi s K = ((k = k' ∧ 0 ≤ bnd lo 0 ∧ bnd lo 0 ≤ bnd hi n ∧ bnd hi n ≤ n) ∧ K (.sl k ((bnd hi n).toNat - (bnd lo 0).toNat) (shift (bnd lo 0).toNat row)) s) := nr (rfl)
@[go_sem] theorem q254 (k' f i k lo' n : Nat) (lo hi : Option D) (s : S) (K : D → S → Prop) : ASliceL (some k') (.ms f i k lo' n) lo hi s K = ((k = k' ∧ bnd lo 0 = 0 ∧ 0 ≤ bnd hi n ∧ bnd hi n ≤ n) ∧ K (.ms f i k lo' (bnd hi n).toNat) s) := nr (rfl)
@[go_sem] theorem q255 (d : Int) : bnd none d = d := nr (rfl)
@[go_sem] theorem q256 (kd : IntKind) (i d : Int) : bnd (some (.v (.int kd i))) d = i := nr (rfl)
@[go_sem] theorem q257 (M : Ctx) (e : Env) (s : S) (K : D → S → Prop) (t : Nat) (m k v : Operand) : AStep M (.insert t m k v) e s K = aPut M.P t (ev M.G e m) (ev M.G e k) (ev M.G e v) s (K (.v undef)) := nr (rfl)

end Eqs

attribute [go_sem] ARun_nil ARun_some ARun_none ARun_guard AGuard_some AGuardE_bool AGuardE_undef AGuardE_tuple ARunC_eq undef Fz_v arr_getD' arr_getD''
  setC_rowOf St_set_set List.getD_cons_zero List.getD_cons_succ List.getD_nil List.map_cons List.map_nil List.length_cons List.length_nil Option.bind_some Option.map_some

attribute [go_sem] decide_eq_true_eq and_true true_and and_false false_and List.getElem?_toArray List.getElem?_cons_zero List.getElem?_cons_succ List.cons_append List.nil_append if_true if_false Option.getD_some Option.isSome_some Bool.false_eq_true List.append_nil List.drop_zero List.drop_succ_cons Bool.cond_false_right Bool.cond_false_left Bool.cond_true_left Bool.cond_true_right ite_self Bool.not_true Bool.not_false cond_true cond_false List.size_toArray implies_true true_implies false_implies List.all_cons List.all_nil List.nodup_cons List.nodup_nil List.mem_cons List.not_mem_nil or_false false_or not_false_eq_true decide_true Bool.and_true Bool.and_self
end Go.Abs
end
section
/-
  An abstract machine over the model, part 12: regions that draw their order. What only reads may be taken first; the rest is taken in every order.
-/
namespace Go.Abs
open Go

def keeps (s s' : S) : Prop := ∀ f i B, s.o f i = some B → s'.o f i = some B
theorem keeps_refl (s : S) : keeps s s := fun _ _ _ h => h
theorem keeps_trans {a b c : S} (h : keeps a b) (k : keeps b c) : keeps a c := fun f i B hb => k f i B (h f i B hb)

/-! ### An operation's continuation may be weakened -/
section
variable {K K' : D → S → Prop} (hk : ∀ d s, K d s → K' d s)
include hk
theorem aLoad_mono {P : Program} {t : Nat} {p : D} {s : S} (h : aLoad P t p s K) : aLoad P t p s K' := by
  unfold aLoad at *
  repeat' (first | exact h.elim | split at h)
  all_goals simp_all
theorem aFld_mono {P : Program} {t : Nat} {p : D} {f : Nat} {s : S} (h : aFld P t p f s K) : aFld P t p f s K' := by
  unfold aFld at *
  repeat' (first | exact h.elim | split at h)
  all_goals simp_all
theorem aIdx_mono {P : Program} {t : Nat} {x i : D} {s : S} (h : aIdx P t x i s K) : aIdx P t x i s K' := by
  unfold aIdx at *
  repeat' (first | exact h.elim | split at h)
  all_goals first
    | (simp_all; done)
    | (obtain ⟨⟨rfl, h1⟩, h2⟩ := h; simp_all)
theorem aSlice_mono {P : Program} {t : Nat} {x : D} {lo hi : Option D} {s : S} (h : aSlice P t x lo hi s K) : aSlice P t x lo hi s K' := by
  unfold aSlice ASliceL at *
  repeat' (first | exact h.elim | split at h)
  all_goals exact ⟨h.1, hk _ _ h.2⟩
theorem aBox_mono {t : Nat} {d : D} {s : S} (h : aBox t d s K) : aBox t d s K' := by
  unfold aBox at *
  repeat' (first | exact h.elim | split at h)
  all_goals simp_all
theorem aAlloc_mono {P : Program} {t : Nat} {s : S} (h : aAlloc P t s K) : aAlloc P t s K' := by
  unfold aAlloc at *
  repeat' (first | exact h.elim | split at h)
  all_goals simp_all
theorem aBin_mono {P : Program} {op : BinOp} {t : Nat} {x y : D} {s : S} (h : aBin P op t x y s K) : aBin P op t x y s K' := by
  unfold aBin at *
  repeat' (first | exact h.elim | (have := h.2; exact this.elim) | split at h)
  all_goals simp_all
theorem aUn_mono {op : UnOp} {x : D} {s : S} (h : aUn op x s K) : aUn op x s K' := by
  unfold aUn at *
  repeat' (first | exact h.elim | split at h)
  all_goals simp_all
theorem aExtract_mono {x : D} {i : Nat} {s : S} (h : aExtract x i s K) : aExtract x i s K' := by
  cases x <;> first
    | exact h.elim
    | exact ⟨h.1, hk _ _ h.2⟩
theorem aBuild_mono {P : Program} {t : Nat} {ps : List (Nat × D)} {s : S} (h : aBuild P t ps s K) : aBuild P t ps s K' := by
  unfold aBuild at *
  repeat' (first | exact h.elim | split at h)
  all_goals simp_all
theorem aBuildSlice_mono {P : Program} {t n : Nat} {ps : List (Nat × D)} {s : S} (h : aBuildSlice P t n ps s K) : aBuildSlice P t n ps s K' := by
  unfold aBuildSlice at *
  cases hx : tEl P t with
  | none => simp only [hx] at h
  | some x =>
    simp only [hx] at h ⊢
    cases hp : partsCells x.k ps with
    | none => simp only [hp] at h
    | some qs =>
      simp only [hp] at h ⊢
      exact ⟨h.1, hk _ _ h.2⟩
theorem aMake_mono {P : Program} {t : Nat} {l c : D} {s : S} (h : aMake P t l c s K) : aMake P t l c s K' := by
  unfold aMake at *
  repeat' (first | exact h.elim | split at h)
  all_goals simp_all
theorem aLen_mono {P : Program} {t : Nat} {x : D} {a b : Nat} {s : S} (h : aLen P t x a b s K) : aLen P t x a b s K' := by
  unfold aLen at *
  obtain ⟨h0, h⟩ := h
  refine ⟨h0, ?_⟩
  repeat' (first | exact h.elim | split at h)
  all_goals simp_all
theorem aConv_mono {P : Program} {a b : Nat} {x : D} {s : S} (h : aConv P a b x s K) : aConv P a b x s K' := by
  unfold aConv at *
  repeat' (first | exact h.elim | split at h)
  all_goals simp_all
theorem aAppend_mono {P : Program} {t : Nat} {x y : D} {s : S} (h : aAppend P t x y s K) : aAppend P t x y s K' := by
  rw [aAppend_eq] at *
  repeat' (first | exact h.elim | split at h)
  all_goals simp_all
theorem aTwo_mono {mx : Bool} {x y : D} {s : S} (h : aTwo mx x y s K) : aTwo mx x y s K' := by
  unfold aTwo at *
  repeat' (first | exact h.elim | split at h)
  all_goals simp_all
theorem AStep_mono {M : Ctx} {op : Op} {e : Env} {s : S} (h : AStep M op e s K) : AStep M op e s K' := by
  cases op with
  | move => exact hk _ _ h
  | assign => exact hk _ _ h
  | pick c a b =>
    simp only [AStep] at *
    split at h <;> try (exact h.elim)
    exact hk _ _ h
  | alloc => exact aAlloc_mono hk h
  | box => exact aBox_mono hk h
  | build => exact ⟨h.1, aBuild_mono hk h.2⟩
  | buildSlice => exact aBuildSlice_mono hk h
  | makeSlice => exact aMake_mono hk h
  | load => exact aLoad_mono hk h
  | store t p x =>
    simp only [AStep] at *
    unfold aStore at *
    repeat' (first | exact h.elim | split at h)
    all_goals simp_all
  | fieldAddr => exact aFld_mono hk h
  | indexAddr => exact aIdx_mono hk h
  | index t x i =>
    simp only [AStep] at *
    unfold aIndex at *
    split at h <;> try (exact h.elim)
    exact ⟨h.1, hk _ _ h.2⟩
  | slice => exact ⟨h.1, aSlice_mono hk h.2⟩
  | binOp => exact aBin_mono hk h
  | unOp => exact aUn_mono hk h
  | extract => exact aExtract_mono hk h
  | makeFunc => exact ⟨h.1, hk _ _ h.2⟩
  | nilCheck x =>
    simp only [AStep] at *
    split at h <;> first | exact hk _ _ h | exact h.elim
  | convert => exact aConv_mono hk h
  | call c =>
    simp only [AStep] at *
    unfold aCallOp at *
    split at h
    · exact aLen_mono hk h
    · exact ⟨h.1, h.2.1, aAppend_mono hk h.2.2⟩
    · exact ⟨h.1, aTwo_mono hk h.2⟩
    · exact ⟨h.1, aTwo_mono hk h.2⟩
    · split at h
      · exact ⟨h.1, ACall.mono h.2 hk⟩
      · exact ⟨h.1, ARound.mono h.2 hk⟩
      · exact h.elim
    · exact h.elim
  | makeMap t r => exact ⟨h.1, hk _ _ h.2⟩
  | lookup t m k ok =>
    simp only [AStep] at *
    unfold aLook at *
    split at h <;> try (exact h.elim)
    split at h <;> try (exact h.elim)
    · unfold aLookE at *
      split at h <;> try (exact h.elim)
      exact ⟨h.1, hk _ _ h.2⟩
    · unfold aLookE2 at *
      split at h <;> try (exact h.elim)
      exact ⟨h.1, hk _ _ h.2⟩
  | mapUpdate t m k x =>
    simp only [AStep] at *
    unfold aPut at *
    split at h <;> try (exact h.elim)
    split at h <;> try (exact h.elim)
    unfold aPutE at *
    split at h <;> try (exact h.elim)
    exact ⟨h.1, hk _ _ h.2⟩
  | insert t m k x =>
    simp only [AStep] at *
    unfold aPut at *
    split at h <;> try (exact h.elim)
    split at h <;> try (exact h.elim)
    unfold aPutE at *
    split at h <;> try (exact h.elim)
    exact ⟨h.1, hk _ _ h.2⟩
  | _ => exact h.elim
end

theorem map_ev_congr {G : Nat → Option D} {e e' : Env} {xs : List Operand} (he : ∀ x ∈ xs, ev G e x = ev G e' x) : xs.map (ev G e) = xs.map (ev G e') := List.map_congr_left he

theorem AStep_congr {M : Ctx} {op : Op} {e e' : Env} {s : S} {K : D → S → Prop} (he : ∀ x ∈ op.operands, ev M.G e x = ev M.G e' x) : AStep M op e s K = AStep M op e' s K := by
  cases op with
  | move x => simp only [AStep]; rw [he x (by simp [Op.operands])]
  | assign x => simp only [AStep]; rw [he x (by simp [Op.operands])]
  | pick c a b => simp only [AStep]; rw [he c (by simp [Op.operands]), he a (by simp [Op.operands]), he b (by simp [Op.operands])]
  | alloc t => rfl
  | box t x => simp only [AStep]; rw [he x (by simp [Op.operands])]
  | build t ps =>
    have : (ps.toList.map fun x => (x.1, ev M.G e x.2)) = (ps.toList.map fun x => (x.1, ev M.G e' x.2)) :=
      List.map_congr_left fun x hx => by rw [he x.2 (by simp only [Op.operands, List.mem_toArray]; exact List.mem_map_of_mem hx)]
    simp only [AStep, this]
  | buildSlice t n ps =>
    have : (ps.toList.map fun x => (x.1, ev M.G e x.2)) = (ps.toList.map fun x => (x.1, ev M.G e' x.2)) :=
      List.map_congr_left fun x hx => by rw [he x.2 (by simp only [Op.operands, List.mem_toArray]; exact List.mem_map_of_mem hx)]
    simp only [AStep, this]
  | makeSlice t l c => simp only [AStep]; rw [he l (by simp [Op.operands]), he c (by simp [Op.operands])]
  | load t x => simp only [AStep]; rw [he x (by simp [Op.operands])]
  | store t p x => simp only [AStep]; rw [he p (by simp [Op.operands]), he x (by simp [Op.operands])]
  | fieldAddr t x f => simp only [AStep]; rw [he x (by simp [Op.operands])]
  | indexAddr t x i => simp only [AStep]; rw [he x (by simp [Op.operands]), he i (by simp [Op.operands])]
  | index t x i => simp only [AStep]; rw [he x (by simp [Op.operands]), he i (by simp [Op.operands])]
  | slice t x lo hi mx =>
    have ho : ∀ o : Option Operand, (∀ y ∈ o, y ∈ Op.operands (.slice t x lo hi mx)) → evO M.G e o = evO M.G e' o := fun o ho => by
      cases o with
      | none => rfl
      | some y => exact congrArg some (he y (ho y rfl))
    simp only [AStep]
    rw [he x (by simp [Op.operands]), ho lo (fun y hy => by rw [Option.mem_def] at hy; simp [Op.operands, hy]), ho hi (fun y hy => by rw [Option.mem_def] at hy; simp [Op.operands, hy])]
  | binOp op t x y t' => simp only [AStep]; rw [he x (by simp [Op.operands]), he y (by simp [Op.operands])]
  | unOp op t x => simp only [AStep]; rw [he x (by simp [Op.operands])]
  | extract x i => simp only [AStep]; rw [he x (by simp [Op.operands])]
  | makeFunc f first caps =>
    simp only [AStep]
    rw [map_ev_congr (xs := caps.toList) fun x hx => he x (by simp only [Op.operands, Array.mem_append]; exact .inr (by simpa using hx))]
  | nilCheck x => simp only [AStep]; rw [he x (by simp [Op.operands])]
  | convert a b x => simp only [AStep]; rw [he x (by simp [Op.operands])]
  | call c =>
    have ha : ∀ x ∈ c.args, ev M.G e x = ev M.G e' x := fun x hx => he x (by simp only [Op.operands, Call.operands, Array.mem_append]; exact .inr hx)
    have h0 : ∀ i, ev M.G e (c.args.getD i (.const undef)) = ev M.G e' (c.args.getD i (.const undef)) := fun i => by
      rw [Array.getD_eq_getD_getElem?]
      cases hi : c.args[i]? with
      | none => rfl
      | some x => exact ha x (Array.mem_of_getElem? hi)
    have h1 : c.args.toList.map (ev M.G e) = c.args.toList.map (ev M.G e') := map_ev_congr fun x hx => ha x (by simpa using hx)
    simp only [AStep, aCallOp, h0, h1]
    cases hc : c.callee with
    | value f => simp only []; rw [he f (by simp [Op.operands, Call.operands, hc])]
    | builtin b => cases b <;> rfl
    | invoke r m => rfl
  | lookup t m k ok => simp only [AStep]; rw [he m (by simp [Op.operands]), he k (by simp [Op.operands])]
  | mapUpdate t m k x => simp only [AStep]; rw [he m (by simp [Op.operands]), he k (by simp [Op.operands]), he x (by simp [Op.operands])]
  | insert t m k x => simp only [AStep]; rw [he m (by simp [Op.operands]), he k (by simp [Op.operands]), he x (by simp [Op.operands])]
  | _ => rfl

/-! ### What only reads -/
def noEq : BinOp → Bool
  | .eql | .neq => false
  | _ => true
def pureOp (P : Program) : Op → Bool
  | .move _ | .assign _ | .pick .. | .fieldAddr .. | .indexAddr .. | .index .. | .slice .. | .unOp .. | .extract .. | .convert .. | .nilCheck _ | .makeFunc .. | .build .. => true
  | .binOp op t .. => noEq op || tKind P t != 1
  | .call c => match c.callee with | .builtin .len => true | .builtin .max => true | .builtin .min => true | _ => false
  | _ => false
def readOp : Op → Bool
  | .load .. => true
  | _ => false

theorem early_bin {P : Program} {x0 y0 : Operand} {t0 : Nat} {op : BinOp} {t : Nat} {x y : D} {s : S} {K : D → S → Prop} (hq : noEq op = true ∨ tKind P t ≠ 1) (h : aBin P op t x y s K) :
    ∃ d, K d s ∧ ∀ s' : S, ∀ _ : (pureOp P (.binOp op t x0 y0 t0) = true ∨ keeps s s'), ∀ K' : D → S → Prop, K' d s' → aBin P op t x y s' K' := by
  unfold aBin at *
  generalize eqShape P 10000 t = sh at h ⊢
  split at h
  · obtain ⟨h1, h⟩ := h
    split at h
    · rename_i v hv
      refine ⟨_, h, fun s' _ K' hk => ⟨h1, ?_⟩⟩
      exact hk
    · exact h.elim
  · split at h <;> first
      | exact h.elim
      | exact ⟨_, h.2, fun s' _ K' hk => ⟨h.1, hk⟩⟩
  · split at h <;> first
      | exact h.elim
      | exact ⟨_, h, fun s' _ K' hk => hk⟩
  · split at h <;> try (exact h.elim)
    obtain ⟨h1, h2, h⟩ := h
    split at h <;> try (exact h.elim)
    rename_i r hr
    split at h <;> first
      | exact h.elim
      | (refine ⟨_, h, fun s' _ K' hk => ⟨h1, h2, ?_⟩⟩; exact hk)
  · obtain ⟨h1, h⟩ := h
    split at h <;> first
      | exact h.elim
      | exact absurd h1 (hq.resolve_left (by simp [noEq]))
  · obtain ⟨h1, h⟩ := h
    split at h <;> first
      | exact h.elim
      | exact absurd h1 (hq.resolve_left (by simp [noEq]))
  · obtain ⟨h1, h⟩ := h
    split at h <;> first
      | exact h.elim
      | exact absurd h1 (hq.resolve_left (by simp [noEq]))
  · obtain ⟨h1, h⟩ := h
    split at h <;> first
      | exact ⟨_, h, fun s' _ K' hk => ⟨h1, hk⟩⟩
      | exact h.elim
  · obtain ⟨h1, h⟩ := h
    split at h <;> first
      | exact ⟨_, h, fun s' _ K' hk => ⟨h1, hk⟩⟩
      | exact h.elim
  · obtain ⟨h1, h⟩ := h
    split at h <;> first
      | exact ⟨_, h, fun s' _ K' hk => ⟨h1, hk⟩⟩
      | exact h.elim
  · exact h.elim

theorem early {M : Ctx} {op : Op} {e : Env} {s : S} {K : D → S → Prop} (hp : pureOp M.P op = true ∨ readOp op = true) (h : AStep M op e s K) :
    ∃ d, K d s ∧ ∀ s', (pureOp M.P op = true ∨ keeps s s') → ∀ K' : D → S → Prop, K' d s' → AStep M op e s' K' := by
  cases op with
  | move x => exact ⟨_, h, fun s' _ K' hk => hk⟩
  | assign x => exact ⟨_, h, fun s' _ K' hk => hk⟩
  | pick c a b =>
    simp only [AStep] at *
    split at h <;> try (exact h.elim)
    exact ⟨_, h, fun s' _ K' hk => hk⟩
  | build t ps =>
    obtain ⟨h1, h⟩ := h
    simp only [AStep]
    unfold aBuild at *
    cases hz : tZ M.P t with
    | none => simp only [hz] at h
    | some zs =>
      simp only [hz] at h
      split at h
      · rename_i cs hc; exact ⟨_, h, fun s' _ K' hk => ⟨h1, by simp only [hc]; exact hk⟩⟩
      · exact h.elim
  | load t x =>
    simp only [AStep] at *
    unfold aLoad at *
    cases hl : tLay M.P t with
    | none => simp only [hl] at h
    | some l =>
      obtain ⟨ag, n⟩ := l
      simp only [hl] at h
      split at h
      · exact ⟨_, h.2, fun s' _ K' hk => ⟨h.1, hk⟩⟩
      · rename_i f i k r c _
        split at h <;> try (exact h.elim)
        rename_i k' m ty cell hB
        refine ⟨_, h.2, fun s' hs K' hk => ?_⟩
        have hs' : keeps s s' := hs.resolve_left (by simp [pureOp])
        simp only [hs' _ _ _ hB]
        exact ⟨h.1, hk⟩
      · exact h.elim
  | fieldAddr t x f =>
    simp only [AStep] at *
    unfold aFld at *
    cases hl : tFld M.P t f with
    | none => simp only [hl] at h
    | some o =>
      simp only [hl] at h
      split at h <;> first
        | exact ⟨_, h, fun s' _ K' hk => hk⟩
        | exact h.elim
  | index t x i =>
    simp only [AStep] at *
    unfold aIndex at *
    split at h <;> try (exact h.elim)
    exact ⟨_, h.2, fun s' _ K' hk => ⟨h.1, hk⟩⟩
  | indexAddr t x i =>
    simp only [AStep] at *
    unfold aIdx at *
    split at h <;> try (exact h.elim)
    cases hl : tElem M.P t with
    | some k' =>
      simp only [hl] at h
      split at h <;> first
        | exact ⟨_, h.2, fun s' _ K' hk => ⟨h.1, hk⟩⟩
        | exact h.elim
    | none =>
      simp only [hl] at h
      cases ha : tArr M.P t with
      | none => simp only [ha] at h
      | some l =>
        obtain ⟨n, es⟩ := l
        simp only [ha] at h
        split at h <;> first
          | exact ⟨_, h.2, fun s' _ K' hk => ⟨h.1, hk⟩⟩
          | exact h.elim
  | slice t x lo hi mx =>
    obtain ⟨h1, h⟩ := h
    simp only [AStep]
    unfold aSlice ASliceL at *
    cases hl : tElem M.P t with
    | none => simp only [hl] at h
    | some k' =>
      simp only [hl] at h ⊢
      split at h <;> first
        | exact ⟨_, h.2, fun s' _ K' hk => ⟨h1, h.1, hk⟩⟩
        | exact h.elim
  | binOp op t x y t' =>
    have hq : noEq op = true ∨ tKind M.P t ≠ 1 := by
      rcases hp with hp | hp
      · exact ((Bool.or_eq_true_iff).1 hp).imp id bne_iff_ne.1
      · cases hp
    exact early_bin hq h
  | unOp op t x =>
    simp only [AStep] at *
    unfold aUn at *
    split at h <;> first
      | exact ⟨_, h, fun s' _ K' hk => hk⟩
      | exact h.elim
  | extract x i =>
    simp only [AStep] at *
    unfold aExtract at *
    split at h <;> first
      | exact ⟨_, h.2, fun s' _ K' hk => ⟨h.1, hk⟩⟩
      | exact h.elim
  | makeFunc f first caps => exact ⟨_, h.2, fun s' _ K' hk => ⟨h.1, hk⟩⟩
  | nilCheck x =>
    simp only [AStep] at *
    split at h <;> first
      | exact ⟨_, h, fun s' _ K' hk => hk⟩
      | exact h.elim
  | convert a b x =>
    simp only [AStep] at *
    unfold aConv at *
    split at h <;> first
      | exact ⟨_, h, fun s' _ K' hk => hk⟩
      | exact h.elim
  | call c =>
    simp only [AStep] at *
    unfold aCallOp at *
    cases hc : c.callee with
    | builtin b =>
      cases b with
      | len =>
        simp only [hc] at h
        unfold aLen at *
        obtain ⟨h0, h⟩ := h
        split at h <;> first
          | exact ⟨_, h.2, fun s' _ K' hk => ⟨h0, h.1, hk⟩⟩
          | exact h.elim
      | max =>
        simp only [hc] at h
        unfold aTwo at *
        obtain ⟨h0, h⟩ := h
        split at h <;> first
          | exact ⟨_, h, fun s' _ K' hk => ⟨h0, hk⟩⟩
          | exact h.elim
      | min =>
        simp only [hc] at h
        unfold aTwo at *
        obtain ⟨h0, h⟩ := h
        split at h <;> first
          | exact ⟨_, h, fun s' _ K' hk => ⟨h0, hk⟩⟩
          | exact h.elim
      | _ => rcases hp with hp | hp <;> simp [pureOp, readOp, hc] at hp
    | _ => rcases hp with hp | hp <;> simp [pureOp, readOp, hc] at hp
  | _ => rcases hp with hp | hp <;> simp [pureOp, readOp] at hp

/-! ### One operation, its guard looked up -/
def AOp (M : Ctx) (all : Array Oper) (o : Oper) (e : Env) (s : S) (K : D → S → Prop) : Prop :=
  (∀ t, o.dst = some t → t < M.N) ∧
  match o.guard with
  | none => AStep M o.op e s K
  | some (j, want) =>
    match ((all[j]?).bind (·.dst)).map e with
    | some (.v (.bool b)) => if b = want then AStep M o.op e s K else K (.v undef) s
    | some (.v (.tuple _)) => K (.v undef) s
    | _ => False
theorem ARun_one (M : Ctx) (all : Array Oper) (Q : Env → S → Prop) (o : Oper) (e : Env) (s : S) : ARun M all Q [o] e s = AOp M all o e s (fun d s' => Q (put e o.dst d) s') := by
  rw [ARun_cons]; unfold AOp; rfl

theorem AOp.mono {M : Ctx} {all : Array Oper} {o : Oper} {e : Env} {s : S} {K K' : D → S → Prop} (hk : ∀ d s, K d s → K' d s) (h : AOp M all o e s K) : AOp M all o e s K' := by
  obtain ⟨h0, h⟩ := h
  refine ⟨h0, ?_⟩
  cases hg : o.guard with
  | none => rw [hg] at h; exact AStep_mono hk h
  | some jw =>
    obtain ⟨j, want⟩ := jw
    rw [hg] at h
    simp only at h ⊢
    split at h
    · split at h
      · rename_i hb; rw [if_pos hb]; exact AStep_mono hk h
      · rename_i hb; rw [if_neg hb]; exact hk _ _ h
    · exact hk _ _ h
    · exact h.elim

theorem ev_upd {G : Nat → Option D} {e : Env} {t : Nat} {d : D} {x : Operand} (h : x ≠ .tmp t) : ev G (upd e t d) x = ev G e x := by
  cases x with
  | tmp u =>
    show (if u = t then d else e u) = e u
    rw [if_neg fun hu => h (by rw [hu])]
  | _ => rfl

theorem AOp_put {M : Ctx} {all : Array Oper} {o : Oper} {e : Env} {s : S} {K : D → S → Prop} {t : Option Nat} {d : D} (h : ∀ u, t = some u → u ∉ o.looksAt all) : AOp M all o (put e t d) s K = AOp M all o e s K := by
  cases t with
  | none => rfl
  | some t =>
    have ht := h t rfl
    simp only [Oper.looksAt, List.mem_append, not_or] at ht
    have hs : AStep M o.op (put e (some t) d) s K = AStep M o.op e s K := AStep_congr fun x hx => ev_upd fun he => ht.1 (by
      subst he; exact List.mem_filterMap.2 ⟨.tmp t, by simpa using hx, rfl⟩)
    unfold AOp
    rw [hs]
    cases hg : o.guard with
    | none => rfl
    | some jw =>
      obtain ⟨j, want⟩ := jw
      have h2 := ht.2
      rw [hg] at h2
      simp only at h2 ⊢
      cases hj : (all[j]?).bind (·.dst) with
      | none => rfl
      | some u =>
        have hu : u ≠ t := fun hu => h2 (by rw [hj]; simp [hu])
        have : put e (some t) d u = e u := if_neg hu
        simp only [Option.map_some, this]

theorem put_put {e : Env} {a b : Option Nat} {x y : D} (h : ∀ d, a = some d → b ≠ some d) : put (put e a x) b y = put (put e b y) a x := by
  cases a with
  | none => rfl
  | some a =>
    cases b with
    | none => rfl
    | some b =>
      have hab : a ≠ b := fun hh => h a rfl (by rw [hh])
      funext j
      show (if j = b then y else if j = a then x else e j) = (if j = a then x else if j = b then y else e j)
      by_cases h1 : j = b
      · subst h1; rw [if_pos rfl, if_neg (Ne.symm hab), if_pos rfl]
      · rw [if_neg h1, if_neg h1]

/-- The operation hands back d here, and wherever as much is known. -/
def AYield (M : Ctx) (all : Array Oper) (o : Oper) (e : Env) (s : S) (d : D) : Prop :=
  ∀ s', (pureOp M.P o.op = true ∨ keeps s s') → ∀ K : D → S → Prop, K d s' → AOp M all o e s' K

theorem AOp.early {M : Ctx} {all : Array Oper} {o : Oper} {e : Env} {s : S} {K : D → S → Prop} (hp : pureOp M.P o.op = true ∨ readOp o.op = true) (h : AOp M all o e s K) :
    ∃ d, K d s ∧ AYield M all o e s d := by
  obtain ⟨h0, h⟩ := h
  unfold AYield AOp
  cases hg : o.guard with
  | none =>
    rw [hg] at h
    obtain ⟨d, h1, h2⟩ := Abs.early hp h
    exact ⟨d, h1, fun s' hs K hk => ⟨h0, h2 s' hs K hk⟩⟩
  | some jw =>
    obtain ⟨j, want⟩ := jw
    rw [hg] at h
    simp only at h ⊢
    split at h
    · rename_i b hb0
      split at h
      · rename_i hb
        obtain ⟨d, h1, h2⟩ := Abs.early hp h
        exact ⟨d, h1, fun s' hs K hk => ⟨h0, by rw [if_pos hb]; exact h2 s' hs K hk⟩⟩
      · rename_i hb
        exact ⟨_, h, fun s' hs K hk => ⟨h0, by rw [if_neg hb]; exact hk⟩⟩
    · exact ⟨_, h, fun s' hs K hk => ⟨h0, hk⟩⟩
    · exact h.elim

/-! ### All orders -/
section
variable (M : Ctx) (ops : Array Oper) (ws : List Nat) (Q : Env → S → Prop)
def AAny : Nat → Array Bool → Env → S → Prop
  | 0, listed, e, s => Region.ready .any ops listed = [] ∧ Q e s
  | fuel + 1, listed, e, s =>
    (Region.ready .any ops listed = [] → Q e s) ∧
    ∀ i ∈ Region.ready .any ops listed, ∀ o, ops[i]? = some o → AOp M ops o e s fun d s' => (i ∈ ws ∨ keeps s s') ∧ AAny fuel (listed.setIfInBounds i true) (put e o.dst d) s'
end

theorem aany_done {M : Ctx} {ops : Array Oper} {ws : List Nat} {Q : Env → S → Prop} {listed : Array Bool} {e : Env} {s : S} (hr : Region.ready .any ops listed = []) (h : Q e s) : ∀ fuel, AAny M ops ws Q fuel listed e s
  | 0 => ⟨hr, h⟩
  | _ + 1 => ⟨fun _ => h, fun i hi => by rw [hr] at hi; cases hi⟩

theorem aany_first {M : Ctx} {ops : Array Oper} {ws : List Nat} {Q : Env → S → Prop} {i : Nat} {oi : Oper} {B : Nat → Bool} (hi : ops[i]? = some oi) (hBi : B i = true)
    (hcl : ∀ (j : Nat) (oj : Oper), ops[j]? = some oj → B j = true → j ≠ i → ∃ x ∈ oj.after, Region.binds .any x = true ∧ B x.on = true) :
    ∀ (fuel : Nat) (listed : Array Bool) (e : Env) (s : S) (d : D), (∀ j, B j = true → listed.getD j false = false) →
      (∀ (j : Nat) (oj : Oper), ops[j]? = some oj → B j = false → listed.getD j true = false → oi.apart ops oj = true ∧ (pureOp M.P oi.op = true ∨ j ∉ ws)) →
      i ∈ Region.ready .any ops listed → AYield M ops oi e s d → AAny M ops ws Q fuel (listed.setIfInBounds i true) (put e oi.dst d) s → AAny M ops ws Q (fuel + 1) listed e s := by
  intro fuel
  induction fuel with
  | zero =>
    intro listed e s d _ _ hr hy H
    refine ⟨fun h => (by rw [h] at hr; cases hr), fun j hj o ho => ?_⟩
    by_cases hji : j = i
    · subst hji
      rw [hi] at ho; cases ho
      exact hy s (.inr (keeps_refl s)) _ ⟨.inr (keeps_refl s), H⟩
    · have := ready_mono hj hji
      rw [H.1] at this; cases this
  | succ fuel ih =>
    intro listed e s d hB hap hr hy H
    refine ⟨fun h => (by rw [h] at hr; cases hr), fun j hj oj hoj => ?_⟩
    by_cases hji : j = i
    · subst hji
      rw [hi] at hoj; cases hoj
      exact hy s (.inr (keeps_refl s)) _ ⟨.inr (keeps_refl s), H⟩
    · have h1 := H.2 j (ready_mono hj hji) oj hoj
      obtain ⟨hjun, oj', hoj', hall⟩ := mem_ready.1 hj
      rw [hoj] at hoj'; cases hoj'
      have hBj : B j = false := by
        cases hb : B j with
        | false => rfl
        | true =>
          obtain ⟨x, hx, hbi, hbo⟩ := hcl j oj hoj hb hji
          have h2 := hall x hx hbi
          rw [hB _ hbo] at h2; cases h2
      obtain ⟨hapj, hw⟩ := hap j oj hoj hBj hjun
      obtain ⟨a1, a2, a3⟩ := Oper.apart_spec hapj
      rw [AOp_put a1] at h1
      refine AOp.mono (fun dj s' hk => ⟨hk.1, ?_⟩) h1
      refine ih (listed.setIfInBounds j true) (put e oj.dst dj) s' d ?_ ?_ (ready_mono hr (Ne.symm hji)) ?_ ?_
      · intro k hk
        have hkj : j ≠ k := fun hh => by rw [hh, hk] at hBj; cases hBj
        rw [getD_set_ne false hkj]; exact hB k hk
      · intro k ok hok hBk hun
        refine hap k ok hok hBk ?_
        by_cases hjk : j = k
        · subst hjk; exact hjun
        · rw [getD_set_ne true hjk] at hun; exact hun
      · intro s2 hs2 K hK
        rw [AOp_put a3]
        refine hy s2 ?_ K hK
        rcases hw with hw | hw
        · exact .inl hw
        · rcases hs2 with hs2 | hs2
          · exact .inl hs2
          · exact .inr (keeps_trans (hk.1.resolve_left hw) hs2)
      · rw [← put_put a2, Array.setIfInBounds_comm _ _ hji]
        exact hk.2

/-! ### What is reckoned for all orders holds of all orders -/
theorem aop_wp {M : Ctx} {all : Array Oper} {n i : Nat} {o : Oper} {Q' : Exit → Act → World → Prop} {c : Cfg} {e : Env} {s : S} {a : Act} {K : D → S → Prop} {next : Act → World → Prop} (ho : all[i]? = some o)
    (hE : EnvRel M c e a) (hok : c.Ok s) (h : AOp M all o e s K)
    (hk : ∀ c' d s' a', Ext c c' → EnvRel M c' (Abs.put e o.dst d) a' → c'.Ok s' → K d s' → next a' c'.W) : wpOpIn (wideR M.r) n M.P all Q' i next a c.W := by
  obtain ⟨ht, h⟩ := h
  unfold wpOpIn
  simp only [ho]
  have hskip : K (.v undef) s → next (a.put o.dst undef) c.W := fun h' => hk c _ s _ (Ext.refl c) (hE.put (Ext.refl c) ht (.v undef)) hok h'
  have hstep : AStep M o.op e s K → o.wpIn (wideR M.r) n M.P a c.W next Q' := fun h' => astep_wp hE hok h' ht fun c' d s' a' g1 g2 g3 g4 => hk c' d s' a' g1 g2 g3 g4
  cases hg : o.guard with
  | none =>
    simp only [hg] at h
    rw [if_pos (by simp [Region.wanted, hg])]
    exact hstep h
  | some jw =>
    obtain ⟨j, want⟩ := jw
    simp only [hg] at h
    cases hj : (all[j]?).bind (·.dst) with
    | none => simp [hj] at h
    | some t =>
      simp only [hj, Option.map_some] at h
      have hslot := hE.slot t
      have hy : yielded all a.tmps j = match a.tmps[t]? with | some (.bool b) => some b | _ => none := by
        simp only [yielded, hj, Option.bind_some]
        cases a.tmps[t]? with
        | none => rfl
        | some v => cases v <;> rfl
      split at h
      · rename_i b he
        simp only [Option.some.injEq] at he
        rw [he] at hslot
        have hv : a.tmps.getD t undef = .bool b := by generalize a.tmps.getD t undef = v at hslot; cases hslot; rfl
        have hv' : a.tmps[t]? = some (.bool b) := by
          rw [Array.getD_eq_getD_getElem?] at hv
          cases hq : a.tmps[t]? with
          | none => simp [hq, undef] at hv
          | some v => simpa [hq] using hv
        rw [hv'] at hy
        simp only at hy
        by_cases hb : b = want
        · rw [if_pos hb] at h
          rw [if_pos (by simp [Region.wanted, hg, hy, hb])]
          exact hstep h
        · rw [if_neg hb] at h
          rw [if_neg (by simp [Region.wanted, hg, hy, hb])]
          exact ⟨fun _ _ => trivial, hskip h⟩
      · rename_i vs he
        simp only [Option.some.injEq] at he
        rw [he] at hslot
        have hv : ∀ v, a.tmps[t]? = some v → v = .tuple vs := by
          intro v hq
          rw [Array.getD_eq_getD_getElem?, hq] at hslot
          simp only [Option.getD_some] at hslot
          cases hslot; rfl
        have hy' : yielded all a.tmps j = none := by
          rw [hy]
          cases hq : a.tmps[t]? with
          | none => rfl
          | some v => rw [hv v hq]
        rw [if_neg (by simp [Region.wanted, hg, hy'])]
        exact ⟨fun _ _ => trivial, hskip h⟩
      · exact h.elim

theorem aany_wp {M : Ctx} {ops : Array Oper} {ws : List Nat} {n : Nat} {Q : Env → S → Prop} {Q' : Exit → Act → World → Prop} {c0 : Cfg}
    (hQ : ∀ c a e s, Ext c0 c → EnvRel M c e a → c.Ok s → Q e s → Q' .normal a c.W) :
    ∀ (fuel : Nat) (listed : Array Bool) (c : Cfg) (e : Env) (s : S) (a : Act), Ext c0 c → EnvRel M c e a → c.Ok s → AAny M ops ws Q fuel listed e s →
      wpAnyIn (wideR M.r) n M.P .any ops Q' fuel listed a c.W := by
  intro fuel
  induction fuel with
  | zero => intro listed c e s a hx hE hok h; exact ⟨h.1, hQ c a e s hx hE hok h.2⟩
  | succ fuel ih =>
    intro listed c e s a hx hE hok h
    refine ⟨fun hr => hQ c a e s hx hE hok (h.1 hr), fun i hi => ?_⟩
    obtain ⟨_, o, ho, _⟩ := mem_ready.1 hi
    exact aop_wp ho hE hok (h.2 i hi o ho) fun c' d s' a' g1 g2 g3 g4 => ih _ c' _ s' a' (hx.trans g1) g2 g3 g4.2

theorem awp_any {M : Ctx} {id : Nat} {ops : Array Oper} {ws : List Nat} {Q : Exit → Env → S → Prop} {e : Env} {s : S} (hm : M.P.follows .mixedOrders = true)
    (h : AAny M ops ws (Q .normal) ops.size (Array.replicate ops.size false) e s) : AWp M (.region id ops true) Q e s := by
  intro cf a n hE hok
  refine wpIn_region_any hm ?_
  obtain ⟨c1, hx, hW, hE1, hok1⟩ : ∃ c1 : Cfg, Ext cf c1 ∧ c1.W = { cf.W with drawn := cf.W.drawn + 1 } ∧ EnvRel M c1 e a ∧ c1.Ok s := ⟨_, (drew_ext cf), rfl, hE.ext (drew_ext cf), drew_ok hok⟩
  rw [← hW]
  exact aany_wp (c0 := cf) (fun c a e s g1 g2 g3 g4 => ⟨c, e, s, rfl, g1, g2, g3, g4⟩) _ _ c1 e s a hx hE1 hok1 h

/-! ### A plan: what to take first, and where every order counts -/
inductive Plan where
  | done
  | op (i : Nat) (p : Plan)
  | alt (i : Nat) (p q : Plan)
  | dead

/-- What waits for i, i among them. -/
def waits (ops : Array Oper) (i : Nat) : Array Bool :=
  (List.range ops.size).foldl (fun B j => B.push (j == i || ((ops[j]?).map fun o => o.after.any fun x => Region.binds .any x && B.getD x.on false).getD false)) #[]

def earlyOk (P : Program) (ops : Array Oper) (ws : List Nat) (listed : Array Bool) (i : Nat) : Bool :=
  match ops[i]? with
  | none => false
  | some oi =>
    let B := waits ops i
    (pureOp P oi.op || readOp oi.op) && B.getD i false &&
    (List.range ops.size).all (fun j => match ops[j]? with
      | none => false
      | some oj => if B.getD j false then !listed.getD j false && (j == i || oj.after.any fun x => Region.binds .any x && B.getD x.on false)
          else listed.getD j true || (oi.apart ops oj && (pureOp P oi.op || !ws.contains j))) && B.size == ops.size

def planOk (P : Program) (ops : Array Oper) (ws : List Nat) : Plan → Option (List Nat) → Nat → Array Bool → Bool
  | .done, none, _, l => (Region.ready .any ops l).isEmpty
  | .op i p, none, f + 1, l => (Region.ready .any ops l == [i] || (Region.ready .any ops l).contains i && earlyOk P ops ws l i) && planOk P ops ws p none f (l.setIfInBounds i true)
  | .alt i p q, none, f + 1, l =>
    match Region.ready .any ops l with
    | r :: rs => r == i && planOk P ops ws p none f (l.setIfInBounds i true) && planOk P ops ws q (some rs) (f + 1) l
    | [] => false
  | .alt i p q, some (r :: rs), f + 1, l => r == i && planOk P ops ws p none f (l.setIfInBounds i true) && planOk P ops ws q (some rs) (f + 1) l
  | .dead, some [], _, _ => true
  | _, _, _, _ => false

/-- What is asked of a step besides. -/
def AKeep (ws : List Nat) (i : Nat) (s : S) (t : Option Nat) (e : Env) (K : Env → S → Prop) (d : D) (s' : S) : Prop := (i ∈ ws ∨ keeps s s') ∧ K (put e t d) s'
def APlan (M : Ctx) (ops : Array Oper) (ws : List Nat) (Q : Env → S → Prop) : Plan → Env → S → Prop
  | .done, e, s => Q e s
  | .op i p, e, s => ∃ o, ops[i]? = some o ∧ AOp M ops o e s (AKeep ws i s o.dst e (APlan M ops ws Q p))
  | .alt i p q, e, s => (∃ o, ops[i]? = some o ∧ AOp M ops o e s (AKeep ws i s o.dst e (APlan M ops ws Q p))) ∧ APlan M ops ws Q q e s
  | .dead, _, _ => True

theorem aplan_any {M : Ctx} {ops : Array Oper} {ws : List Nat} {Q : Env → S → Prop} : ∀ (p : Plan) (rs : Option (List Nat)) (fuel : Nat) (l : Array Bool) (e : Env) (s : S), planOk M.P ops ws p rs fuel l = true → APlan M ops ws Q p e s →
    match rs with
    | none => AAny M ops ws Q fuel l e s
    | some rs => ∀ i ∈ rs, ∀ o, ops[i]? = some o → AOp M ops o e s fun d s' => (i ∈ ws ∨ keeps s s') ∧ AAny M ops ws Q (fuel - 1) (l.setIfInBounds i true) (put e o.dst d) s' := by
  intro p
  induction p with
  | done =>
    intro rs fuel l e s hc h
    cases rs with
    | none => exact aany_done (by simpa [planOk] using hc) h fuel
    | some rs => simp [planOk] at hc
  | dead =>
    intro rs fuel l e s hc h
    cases rs with
    | none => simp [planOk] at hc
    | some rs =>
      cases rs with
      | nil => intro i hi; cases hi
      | cons r rs => simp [planOk] at hc
  | op i p ih =>
    intro rs fuel l e s hc h
    cases rs with
    | some rs => simp [planOk] at hc
    | none =>
      cases fuel with
      | zero => simp [planOk] at hc
      | succ fuel =>
        obtain ⟨o, ho, h⟩ := h
        simp only [planOk, Bool.and_eq_true, Bool.or_eq_true, beq_iff_eq] at hc
        obtain ⟨hc, hp⟩ := hc
        rcases hc with hc | ⟨hc, he⟩
        · refine ⟨fun h0 => (by rw [hc] at h0; cases h0), fun j hj oj hoj => ?_⟩
          rw [hc] at hj
          have : j = i := by simpa using hj
          subst this
          rw [ho] at hoj; cases hoj
          exact AOp.mono (fun d s' hk => ⟨hk.1, ih none fuel _ _ _ hp hk.2⟩) h
        · unfold earlyOk at he
          simp only [ho, Bool.and_eq_true, Bool.or_eq_true, beq_iff_eq, List.all_eq_true, List.mem_range] at he
          obtain ⟨⟨⟨hpr, hBi⟩, hall⟩, hsz⟩ := he
          obtain ⟨d, h1, h2⟩ := AOp.early hpr h
          have hlt : ∀ (j : Nat) (oj : Oper), ops[j]? = some oj → j < ops.size := fun j oj hj => (Array.getElem?_eq_some_iff.1 hj).1
          refine aany_first (B := fun j => (waits ops i).getD j false) ho hBi ?_ fuel l e s d ?_ ?_ (by simpa using hc) h2 (ih none fuel _ _ _ hp h1.2)
          · intro j oj hoj hBj hji
            have := hall j (hlt j oj hoj)
            simp only [hoj, hBj, if_true, Bool.and_eq_true, Bool.or_eq_true, beq_iff_eq] at this
            obtain ⟨x, hx, hb⟩ := Array.any_eq_true'.1 (this.2.resolve_left hji)
            simp only [Bool.and_eq_true] at hb
            exact ⟨x, hx, hb.1, hb.2⟩
          · intro j hBj
            have hj : j < ops.size := by
              rw [← hsz]
              rcases Nat.lt_or_ge j (waits ops i).size with h' | h'
              · exact h'
              · simp [Array.getD, Nat.not_lt.2 h'] at hBj
            have := hall j hj
            obtain ⟨oj, hoj⟩ : ∃ oj, ops[j]? = some oj := ⟨ops[j], by simp [hj]⟩
            simp only [hoj, hBj, if_true, Bool.and_eq_true, Bool.not_eq_true'] at this
            exact this.1
          · intro j oj hoj hBj hun
            have := hall j (hlt j oj hoj)
            simp only [hoj, hBj, Bool.false_eq_true, if_false, Bool.or_eq_true, Bool.and_eq_true, hun, false_or, Bool.not_eq_true'] at this
            refine ⟨this.1, this.2.imp id fun h => ?_⟩
            simpa using h
  | alt i p q ihp ihq =>
    intro rs fuel l e s hc h
    cases fuel with
    | zero => cases rs with
      | none => simp [planOk] at hc
      | some rs => cases rs <;> simp [planOk] at hc
    | succ fuel =>
      obtain ⟨⟨o, ho, h⟩, hq⟩ := h
      cases rs with
      | none =>
        simp only [planOk] at hc
        split at hc
        · rename_i r rs hr
          simp only [Bool.and_eq_true, beq_iff_eq] at hc
          obtain ⟨⟨rfl, hp⟩, hq'⟩ := hc
          refine ⟨fun h0 => (by rw [hr] at h0; cases h0), fun j hj oj hoj => ?_⟩
          rw [hr] at hj
          rcases List.mem_cons.1 hj with rfl | hj
          · rw [ho] at hoj; cases hoj
            exact AOp.mono (fun d s' hk => ⟨hk.1, ihp none fuel _ _ _ hp hk.2⟩) h
          · exact ihq (some rs) (fuel + 1) l e s hq' hq j hj oj hoj
        · cases hc
      | some rs =>
        cases rs with
        | nil => simp [planOk] at hc
        | cons r rs =>
          simp only [planOk, Bool.and_eq_true, beq_iff_eq] at hc
          obtain ⟨⟨rfl, hp⟩, hq'⟩ := hc
          intro j hj oj hoj
          rcases List.mem_cons.1 hj with rfl | hj
          · rw [ho] at hoj; cases hoj
            exact AOp.mono (fun d s' hk => ⟨hk.1, ihp none fuel _ _ _ hp hk.2⟩) h
          · exact ihq (some rs) (fuel + 1) l e s hq' hq j hj oj hoj

theorem awp_plan {M : Ctx} {id : Nat} {ops : Array Oper} {Q : Exit → Env → S → Prop} {e : Env} {s : S} (p : Plan) (ws : List Nat) (hm : M.P.follows .mixedOrders = true)
    (hc : planOk M.P ops ws p none ops.size (Array.replicate ops.size false) = true) (h : APlan M ops ws (Q .normal) p e s) : AWp M (.region id ops true) Q e s :=
  awp_any (ws := ws) hm (aplan_any p none _ _ e s hc h)

/-! ### The equations of a plan -/
def KeepOr : List Nat → Nat → S → S → Prop
  | [], _, s, s' => keeps s s'
  | a :: ws, i, s, s' => if a = i then True else KeepOr ws i s s'
theorem keepOr_eq : ∀ (ws : List Nat) (i : Nat) (s s' : S), (i ∈ ws ∨ keeps s s') = KeepOr ws i s s'
  | [], i, s, s' => by simp [KeepOr]
  | a :: ws, i, s, s' => by
    have := keepOr_eq ws i s s'
    by_cases h : a = i
    · simp [KeepOr, h]
    · simp only [KeepOr, if_neg h, ← this, List.mem_cons]
      simp [Ne.symm h]
def PlanOp (M : Ctx) (ops : Array Oper) (ws : List Nat) (Q : Env → S → Prop) (p : Plan) (i : Nat) (o : Option Oper) (e : Env) (s : S) : Prop :=
  ∃ o', o = some o' ∧ AOp M ops o' e s (AKeep ws i s o'.dst e (APlan M ops ws Q p))
def PlanGE (M : Ctx) (ops : Array Oper) (ws : List Nat) (Q : Env → S → Prop) (p : Plan) (i : Nat) (d : D) (g : Nat) (want : Bool) (t : Nat) (op : Op) (e : Env) (s : S) : Prop :=
  match d with
  | .v (.bool b) => if b = want then AStep M op (upd e g (.v (.bool want))) s (AKeep ws i s (some t) (upd e g (.v (.bool want))) (APlan M ops ws Q p)) else APlan M ops ws Q p (put (upd e g (.v (.bool (!want)))) (some t) (.v undef)) s
  | .v (.tuple _) => APlan M ops ws Q p (put e (some t) (.v undef)) s
  | _ => False
def PlanG (M : Ctx) (ops : Array Oper) (ws : List Nat) (Q : Env → S → Prop) (p : Plan) (i : Nat) (g : Option Nat) (want : Bool) (t : Nat) (op : Op) (e : Env) (s : S) : Prop :=
  match g with
  | some g => PlanGE M ops ws Q p i (e g) g want t op e s
  | none => False
section
variable (M : Ctx) (ops : Array Oper) (ws : List Nat) (Q : Env → S → Prop) (p q : Plan) (i t g : Nat) (op : Op) (ty : TypeId) (ps : String) (af : Array Edge) (e : Env) (s s' : S) (K : Env → S → Prop) (d : D) (j : Nat) (want b : Bool)
@[go_sem] theorem APlan_done : APlan M ops ws Q .done e s = Q e s := nr rfl
@[go_sem] theorem APlan_dead : APlan M ops ws Q .dead e s = True := nr rfl
@[go_sem] theorem APlan_op : APlan M ops ws Q (.op i p) e s = PlanOp M ops ws Q p i ops[i]? e s := nr rfl
@[go_sem] theorem APlan_alt : APlan M ops ws Q (.alt i p q) e s = (PlanOp M ops ws Q p i ops[i]? e s ∧ APlan M ops ws Q q e s) := nr rfl
@[go_sem] theorem PlanOp_some : PlanOp M ops ws Q p i (some ⟨some t, op, ty, ps, af, none⟩) e s = (t < M.N ∧ AStep M op e s (AKeep ws i s (some t) e (APlan M ops ws Q p))) := by
  simp [PlanOp, AOp]
@[go_sem] theorem PlanOp_none : PlanOp M ops ws Q p i (some ⟨none, op, ty, ps, af, none⟩) e s = AStep M op e s (AKeep ws i s none e (APlan M ops ws Q p)) := by
  simp [PlanOp, AOp]
@[go_sem] theorem AKeep_eq (t : Option Nat) : AKeep ws i s t e K d s' = (KeepOr ws i s s' ∧ K (put e t d) s') := by rw [← keepOr_eq]; rfl
@[go_sem] theorem KeepOr_nil : KeepOr [] i s s' = keeps s s' := nr rfl
@[go_sem] theorem KeepOr_cons : KeepOr (j :: ws) i s s' = (if j = i then True else KeepOr ws i s s') := nr rfl
@[go_sem] theorem keeps_self : keeps s s = True := eq_true (keeps_refl s)
theorem aKeep_same : AKeep ws i s (some t) e K d s = K (put e (some t) d) s := by rw [AKeep_eq, ← keepOr_eq]; simp [keeps_refl]
@[go_sem] theorem PlanOp_guard : PlanOp M ops ws Q p i (some ⟨some t, op, ty, ps, af, some (j, want)⟩) e s = (t < M.N ∧ PlanG M ops ws Q p i ((ops[j]?).bind (·.dst)) want t op e s) := by
  simp only [PlanOp, Option.some.injEq, exists_eq_left', AOp]
  simp only [Option.some.injEq, forall_eq']
  congr 1
  cases hj : (ops[j]?).bind (·.dst) with
  | none => simp [PlanG]
  | some g =>
    simp only [Option.map_some, PlanG]
    unfold PlanGE
    generalize hd : e g = d
    split
    · rename_i b he
      simp only [Option.some.injEq] at he
      subst he
      by_cases hb : b = want
      · subst hb; simp only [if_pos, upd_self e g _ hd]
      · have : b = !want := by cases b <;> cases want <;> simp_all
        subst this
        simp only [if_neg hb, upd_self e g _ hd, aKeep_same]
    · rename_i vs he
      simp only [Option.some.injEq] at he
      subst he
      simp only [aKeep_same]
    · split <;> simp_all
@[go_sem] theorem PlanG_some : PlanG M ops ws Q p i (some g) want t op e s = PlanGE M ops ws Q p i (e g) g want t op e s := nr rfl
@[go_sem] theorem PlanGE_bool : PlanGE M ops ws Q p i (.v (.bool b)) g want t op e s = (if b = want then AStep M op (upd e g (.v (.bool want))) s (AKeep ws i s (some t) (upd e g (.v (.bool want))) (APlan M ops ws Q p)) else APlan M ops ws Q p (put (upd e g (.v (.bool (!want)))) (some t) (.v undef)) s) := nr rfl
@[go_sem] theorem PlanGE_tuple (vs : Array Value) : PlanGE M ops ws Q p i (.v (.tuple vs)) g want t op e s = APlan M ops ws Q p (put e (some t) (.v undef)) s := nr rfl
@[go_sem] theorem PlanGE_undef : PlanGE M ops ws Q p i (.v undef) g want t op e s = APlan M ops ws Q p (put e (some t) (.v undef)) s := nr rfl
end
theorem keeps_set {o o' : St} {nx nx' f i : Nat} {B : Option SObj} (h : keeps ⟨o, nx⟩ ⟨o', nx'⟩) (h2 : o f i = none) (nx'' : Nat) : keeps ⟨o, nx⟩ ⟨St.set o' f i B, nx''⟩ := by
  intro f' i' B' hB
  show (if f' = f ∧ i' = i then B else o' f' i') = some B'
  split
  · rename_i hh; obtain ⟨rfl, rfl⟩ := hh
    change o f' i' = some B' at hB
    rw [h2] at hB; cases hB
  · exact h f' i' B' hB
@[go_sem] theorem keeps_new {o : St} {nx nx' f i : Nat} {B : Option SObj} (h : o f i = none) : keeps ⟨o, nx⟩ ⟨St.set o f i B, nx'⟩ = True := eq_true (keeps_set (nx' := nx) (keeps_refl _) h nx')
end Go.Abs
end
section
/-
  An abstract machine over the model, part 13: a range over a function.
-/
namespace Go.Abs
open Go

/-- The slots of a round: the loop's own as they were at its start, the parameters filled. -/
def envAt (e : Env) : List Tmp → List D → Env
  | t :: ts, d :: ds => envAt (upd e t d) ts ds
  | _, _ => e

/-- What is asked at a round's end. -/
def roundA (f : Nat) (rd bz : SObj) (dn : Code → SObj) (K : D → S → Prop) : Exit → Env → S → Prop
  | .normal, _, s => s.o f 0 = some bz ∧ K (.v (.bool true)) (s.put f 0 rd)
  | .ret, _, s => s.o f 0 = some bz ∧ K (.v (.bool false)) (s.put f 0 (dn .ret))
  | .exit id, _, s => s.o f 0 = some bz ∧ K (.v (.bool false)) (s.put f 0 (dn (.exit id)))
  | .goto t, _, s => s.o f 0 = some bz ∧ K (.v (.bool false)) (s.put f 0 (dn (.goto t)))
  | _, _, _ => False

def assignA (K : Env → S → Prop) : Exit → Env → S → Prop
  | .normal, e, s => K e s
  | _, _, _ => False

def endA (M : Ctx) (f : Nat) (rd : SObj) (dn : Code → SObj) (Q : Exit → Env → S → Prop) (e : Env) (_ : D) (s : S) : Prop :=
  (s.o f 0 = some rd ∧ Q .normal e (s.kill f 0)) ∨ ∃ c, s.o f 0 = some (dn c) ∧ AWp M c Q e (s.kill f 0)

/-- What a loop may count on of its yield: a call of it is a round. -/
def RoundLaw (M : Ctx) (l : Nat) (ps : List Tmp) (assign body : Code) (e : Env) (f : Nat) (rd bz : SObj) (dn : Code → SObj) : Prop :=
  ∀ (args : List D) (s : S) (K : D → S → Prop), args.length = ps.length → s.o f 0 = some rd →
    AWp { M with r := some l, b := 0 } assign (assignA fun e' s' => s'.o f 0 = some rd ∧ AWp { M with r := some l, b := 0 } body (roundA f rd bz dn K) e' (s'.put f 0 bz)) (envAt e ps args) s →
    ARound M l args s K

theorem envAt_rel {M : Ctx} {c : Cfg} : ∀ (ps : List Tmp) (ds : List D) (vs : List Value) (e : Env) (tmps : Array Value), (∀ p ∈ ps, p < M.N) → tmps.size = M.N → (∀ t, c.Rep (e t) (tmps.getD t undef)) →
    ds.length = ps.length → vs.length = ps.length → (∀ i d, ds[i]? = some d → c.Rep d (vs.getD i undef)) →
    ((ps.zip vs).foldl (fun t (p, v) => t.setIfInBounds p v) tmps).size = M.N ∧ ∀ t, c.Rep (envAt e ps ds t) (((ps.zip vs).foldl (fun t (p, v) => t.setIfInBounds p v) tmps).getD t undef) := by
  intro ps
  induction ps with
  | nil => intro ds vs e tmps _ hs hr _ _ _; exact ⟨hs, by simpa [envAt] using hr⟩
  | cons p ps ih =>
    intro ds vs e tmps hp hs hr hd hv h
    cases ds with
    | nil => simp at hd
    | cons d ds =>
      cases vs with
      | nil => simp at hv
      | cons v vs =>
        simp only [List.zip_cons_cons, List.foldl_cons, envAt]
        refine ih ds vs (upd e p d) (tmps.setIfInBounds p v) (fun q hq => hp q (by simp [hq])) (by simp [hs]) ?_ (by simpa using hd) (by simpa using hv) (fun i d' hi => by simpa [List.getD] using h (i + 1) d' (by simpa using hi))
        intro t
        have hlt : p < tmps.size := by rw [hs]; exact hp p (by simp)
        show c.Rep (if t = p then d else e t) _
        by_cases ht : t = p
        · subst ht
          rw [if_pos rfl]
          have e1 : (tmps.setIfInBounds t v).getD t undef = v := by simp [Array.getD, hlt]
          rw [e1]
          simpa using h 0 d rfl
        · rw [if_neg ht]
          have e1 : (tmps.setIfInBounds p v).getD t undef = tmps.getD t undef := by
            rw [Array.getD_eq_getD_getElem?, Array.getD_eq_getD_getElem?, Array.getElem?_setIfInBounds_ne (Ne.symm ht)]
          rw [e1]; exact hr t

/-! ### A block beside all -/
theorem beside_ext (c : Cfg) (h : ∀ b, c.K b → b < c.W.heap.size) (o : Obj) : Ext c { c with W := c.W.alloc o } where
  K _ h := h
  β _ _ _ h := h
  size := by show _ ≤ (c.W.alloc o).heap.size; simp
  os := rfl
  tape := rfl
  output := rfl
  keep b hb := heap_push_lt _ _ (h b hb)
  frame b hb _ := heap_push_lt _ _ hb
  newK _ h := .inl h
  newβ f i _ cp h := .inl ⟨f, i, cp, h⟩
theorem beside_ok {c : Cfg} {s : S} (h : c.Ok s) (o : Obj) : Cfg.Ok { c with W := c.W.alloc o } s where
  kb b hb := by have := h.kb b hb; show b < (c.W.alloc o).heap.size; simp; omega
  βb f i b cp hb := by have := h.βb f i b cp hb; show b < (c.W.alloc o).heap.size; simp; omega
  fresh := h.fresh
  obj f i B hB := by
    obtain ⟨hlt, ho⟩ := h.obj f i B hB
    refine ⟨hlt, ?_⟩
    rcases ho with ⟨b, cp, h1, h2, h3⟩ | ho
    case inr => exact .inr ho
    exact .inl ⟨b, cp, h1, h2, h3.mono (fun _ h => h) (fun _ _ _ h => h) (beside_ext c h.kb o).keep (heap_push_lt _ _ (h.βb f i b cp h1))⟩
  inj := h.inj
theorem beside_alien {c : Cfg} {s : S} (h : c.Ok s) (o : Obj) : Alien { c with W := c.W.alloc o } c.W.heap.size :=
  ⟨by show _ < (c.W.alloc o).heap.size; simp, fun hk => absurd (h.kb _ hk) (Nat.lt_irrefl _), fun f i cp hb => absurd (h.βb f i _ cp hb) (Nat.lt_irrefl _)⟩

theorem raw_at {c : Cfg} {s : S} (h : c.Ok s) {f i l : Nat} {o : Obj} (hB : s.o f i = some (.raw l o)) : (∃ cp, c.β f i = some (l, cp)) ∧ c.W.heap[l]? = some o := by
  obtain ⟨_, ho⟩ := h.obj f i _ hB
  rcases ho with ⟨b, cp, h1, h2, h3⟩ | ⟨_, he⟩
  · obtain ⟨rfl, h3⟩ := h3
    exact ⟨⟨cp, h1⟩, h3⟩
  · exact he.elim

/-- A write to a raw block. -/
theorem raw_put {c : Cfg} {s : S} (h : c.Ok s) {f i l : Nat} {o : Obj} (hB : s.o f i = some (.raw l o)) (o' : Obj) :
    Ext c { c with W := c.W.putObj l o' } ∧ Cfg.Ok { c with W := c.W.putObj l o' } (s.put f i (.raw l o')) := by
  obtain ⟨⟨cp, hβ⟩, hh⟩ := raw_at h hB
  have hT : Touch c.W (c.W.putObj l o') l := putObj_touch
  exact ⟨touch_ext h hB hβ hT, touch_ok h hB hβ hT ⟨rfl, World.putObj_heap_same (Array.getElem?_eq_some_iff.1 hh).1⟩⟩

theorem put_kill (s : S) (f i : Nat) (B : SObj) : (s.put f i B).kill f i = s.kill f i := by
  unfold S.put S.kill
  simp only [S.mk.injEq, and_true]
  funext f' i'
  simp only [St.set]
  split <;> rfl

theorem awp_rangeFunc {M : Ctx} {g : Operand} {ps : Array Tmp} {assign body : Code} {Q : Exit → Env → S → Prop} {e : Env} {s : S} {gf : Nat} {caps : List D} (hr : M.r = none) (hp : ∀ p ∈ ps.toList, p < M.N)
    (hg : ev M.G e g = .fn (.func gf) caps) (hc : callable M.P gf = true)
    (h : ∀ (X : D → Value → Prop) (l : Nat) (rd bz : SObj) (dn : Code → SObj), RoundLaw { M with X := X } l ps.toList assign body e s.nx rd bz dn →
      ACall { M with X := X } gf (.fn (.yield l) [] :: caps) (s.push rd) (endA M s.nx rd dn Q e)) : AWp M (.rangeFunc g ps assign body) Q e s := by
  intro cf a n hE hok
  refine wpIn_rangeFunc fun fn _ => ?_
  obtain ⟨rec, hrec⟩ : ∃ rec : LoopState → Option Code → Loop, rec = fun st pe => { state := st, pending := pe, fn, tmps := a.tmps, params := ps, assign, body, defers := cf.W.heap.size } := ⟨_, rfl⟩
  obtain ⟨c1, hc1⟩ : ∃ c1 : Cfg, c1 = { cf with W := cf.W.alloc (.deferred (some [])) } := ⟨_, rfl⟩
  have hx1 : Ext cf c1 := by rw [hc1]; exact beside_ext cf hok.kb _
  have hok1 : c1.Ok s := by rw [hc1]; exact beside_ok hok _
  have hal1 : Alien c1 cf.W.heap.size := by rw [hc1]; exact beside_alien hok _
  have hd1 : c1.W.heap[cf.W.heap.size]? = some (.deferred (some [])) := by rw [hc1]; exact heap_push_new _ _
  have hsz1 : c1.W.heap.size = cf.W.heap.size + 1 := by rw [hc1]; simp
  obtain ⟨l, hl⟩ : ∃ l, l = c1.W.heap.size := ⟨_, rfl⟩
  obtain ⟨c2, hc2⟩ : ∃ c2 : Cfg, c2 = c1.push s (.loop (rec .ready none)) 0 := ⟨_, rfl⟩
  have hx2 : Ext c1 c2 := by rw [hc2]; exact push_ext hok1 _ _
  have hok2 : c2.Ok (s.push (.raw l (.loop (rec .ready none)))) := by
    rw [hc2]; exact push_ok hok1 _ _ _ ⟨hl.symm, heap_push_new _ _⟩
  have hal2 : Alien c2 cf.W.heap.size := hal1.ext hx2
  have hd2 : c2.W.heap[cf.W.heap.size]? = some (.deferred (some [])) := (hx2.frame _ hal1.1 hal1.2.2).trans hd1
  have hx12 : Ext cf c2 := hx1.trans hx2
  have hgx := rep_ev hE g
  rw [hg] at hgx
  generalize hv : a.eval g = vg at hgx
  cases hgx with
  | fn _ _ xs hxl hxr =>
  have hcall := h (fun d v => (∃ t, d = e t ∧ v = a.tmps.getD t undef) ∨ M.X d v) l (.raw l (.loop (rec .ready none))) (.raw l (.loop (rec .busy none))) (fun c => .raw l (.loop (rec .done (some c)))) ?law
  case law =>
    intro args s1 K' hlen hrd hassign c vals hokc hglob hvl hreps
    obtain ⟨⟨cp, hβ⟩, hh⟩ := raw_at hokc hrd
    have hy := run_yield (P := M.P) (args := vals.toArray) hh (by rw [hrec]; simpa [hvl] using hlen)
    rw [hrec] at hy
    refine ⟨fn, _, assign, body, hy, fun n => roundIn_of_wpIn (F := wideR none) trivial ?_⟩
    clear hy
    have henv := envAt_rel (M := M) (c := c) ps.toList args vals e a.tmps hp hE.size (fun t => hglob.x _ _ (.inl ⟨t, rfl, rfl⟩)) hlen (by rw [hvl, hlen]) hreps
    have hfold : (ps.zip vals.toArray).foldl (fun tmps (t, a) => tmps.setIfInBounds t a) a.tmps = (ps.toList.zip vals).foldl (fun t (p, v) => t.setIfInBounds p v) a.tmps := by
      rw [← Array.foldl_toList]; simp
    have hE1 : EnvRel { M with X := fun d v => (∃ t, d = e t ∧ v = a.tmps.getD t undef) ∨ M.X d v, r := some l, b := 0 } c (envAt e ps.toList args)
        { tmps := (ps.zip vals.toArray).foldl (fun tmps (t, a) => tmps.setIfInBounds t a) a.tmps, defers := [] } := by
      refine ⟨DefOk.nil (Nat.zero_le _), ?_, ?_, ⟨hglob.g, hglob.x⟩⟩
      · simp only [hfold]; exact henv.1
      · simp only [hfold]; exact henv.2
    refine wpIn_mono (hassign c _ n hE1 hokc) ?_
    rintro x a' W' ⟨c3, e3, s3, rfl, hx3, hE3, hok3, hq⟩
    cases x with
    | normal =>
      obtain ⟨hrd3, hq⟩ := hq
      obtain ⟨_, hh3⟩ := raw_at hok3 hrd3
      obtain ⟨hx4, hok4⟩ := raw_put hok3 hrd3 (.loop (rec .busy none))
      have hbr := run_beginRound (P := M.P) hh3 (by rw [hrec])
      have hbz : ({ rec .ready none with state := .busy } : Loop) = rec .busy none := by rw [hrec]
      rw [hbz] at hbr
      refine ⟨_, hbr, ?_⟩
      refine wpIn_mono (hq { c3 with W := c3.W.putObj l (.loop (rec .busy none)) } a' n (hE3.ext hx4) hok4) ?_
      have fin : ∀ (jump : Option Code) (c5 : Cfg) (s5 : S), Ext { c3 with W := c3.W.putObj l (.loop (rec .busy none)) } c5 → c5.Ok s5 → s5.o s.nx 0 = some (.raw l (.loop (rec .busy none))) →
          K' (.v (.bool jump.isNone)) (s5.put s.nx 0 (.raw l (.loop (rec (if jump.isNone then .ready else .done) jump)))) →
          ∃ v w', (Instr.endRound l jump).run M.P c5.W = .ok v w' ∧ ∃ (c' : Cfg) (v' : Value) (d : D) (s' : S), Ending.returned v = .returned v' ∧ c'.W = w' ∧ Ext c c' ∧ c'.Ok s' ∧ c'.Rep d v' ∧ K' d s' := by
        intro jump c5 s5 hx5 hok5 hb5 hk5
        obtain ⟨_, hh5⟩ := raw_at hok5 hb5
        obtain ⟨hx6, hok6⟩ := raw_put hok5 hb5 (.loop (rec (if jump.isNone then .ready else .done) jump))
        have her := run_endRound (P := M.P) jump hh5
        have hr6 : ({ rec .busy none with state := if jump.isNone then .ready else .done, pending := jump } : Loop) = rec (if jump.isNone then .ready else .done) jump := by rw [hrec]
        rw [hr6] at her
        exact ⟨_, _, her, _, _, _, _, rfl, rfl, ((hx3.trans hx4).trans hx5).trans hx6, hok6, .v _, hk5⟩
      rintro x a'' W'' ⟨c5, e5, s5, rfl, hx5, hE5, hok5, hq5⟩
      cases x with
      | normal => exact fin none c5 s5 hx5 hok5 hq5.1 hq5.2
      | ret => exact fin (some .ret) c5 s5 hx5 hok5 hq5.1 hq5.2
      | exit id => exact fin (some (.exit id)) c5 s5 hx5 hok5 hq5.1 hq5.2
      | goto t => exact fin (some (.goto t)) c5 s5 hx5 hok5 hq5.1 hq5.2
      | panic ch => exact hq5.elim
      | outgrown => exact hq5.elim
    | _ => exact hq.elim
  have hglob2 : GlobOk { M with X := fun d v => (∃ t, d = e t ∧ v = a.tmps.getD t undef) ∨ M.X d v } c2 :=
    ⟨fun g d hg => hx12.rep (hE.glob.g g d hg), fun d v hv => by
      rcases hv with ⟨t, rfl, rfl⟩ | hv
      · exact hx12.rep (hE.slot t)
      · exact hx12.rep (hE.glob.x d v hv)⟩
  have hrun := hcall c2 (.func (.yield l) #[] #[] :: xs) hok2 hglob2 (by simp [hxl]) (fun i d hd => by
    cases i with
    | zero => simp at hd; subst hd; exact .fn (.yield l) [] [] rfl (fun i d hd => by simp at hd)
    | succ i => simpa [List.getD] using hx12.rep (hxr i d (by simpa using hd)))
  have hround : (wideR M.r).round = none := hr
  rw [hround]
  have hW2 : (cf.W.alloc (.deferred (some []))).alloc (.loop (rec .ready none)) = c2.W := by rw [hc2, hc1]; rfl
  refine ⟨l, [{ target := .collected cf.W.heap.size, args := #[] }], c2.W, { target := .fn (.func gf) xs.toArray, args := #[.func (.yield l) #[] #[]] }, c2.W, gf,
    (.func (.yield l) #[] #[] :: xs).toArray, c2.W, ?_, ?_, fun _ _ => trivial, ?_, fun hd => by simp [wideR] at hd, ?_⟩
  · rw [← hW2, hl, hsz1, hrec]; exact run_enterLoop_outer _ _ _ _ _
  · simp only [resolve, hv]; simp [go_sem]
  · simp [invoke, callFunc_run hc]
  · refine (calls_wideR hrun).mono ?_
    rintro x W' ⟨c3, v, d, s3, rfl, rfl, hx3, hok3, hrep3, hend⟩
    have fin : ∀ (rec' : LoopState) (pe : Option Code), rec' ≠ .busy → s3.o s.nx 0 = some (.raw l (.loop (rec rec' pe))) → ∃ w4, (Instr.endLoop l).run M.P c3.W = .ok pe w4 ∧
        ∃ c4 : Cfg, c4.W = w4 ∧ Ext cf c4 ∧ c4.Ok (s3.kill s.nx 0) ∧ EnvRel M c4 e { a with defers := [{ target := .collected cf.W.heap.size, args := #[] }] ++ a.defers } := by
      intro st pe hst hB
      obtain ⟨_, hh3⟩ := raw_at hok3 hB
      obtain ⟨hx4, hok4⟩ := raw_put hok3 hB (.loop { rec st pe with state := .exhausted })
      have hel0 := run_endLoop (P := M.P) hh3 (by rw [hrec]; exact hst)
      have hpe : (rec st pe).pending = pe := by rw [hrec]
      have hel : (Instr.endLoop l).run M.P c3.W = .ok pe (c3.W.putObj l (.loop { rec st pe with state := .exhausted })) := hel0.trans (congrArg (fun p => Result.ok p _) hpe)
      have hx4' := (hx12.trans hx3).trans hx4
      have hk4 := kill_ok hok4 s.nx 0
      rw [put_kill] at hk4
      refine ⟨_, hel, { c3 with W := c3.W.putObj l (.loop { rec st pe with state := .exhausted }) }, rfl, hx4', hk4, ?_, hE.size, fun t => hx4'.rep (hE.slot t), hE.glob.ext hx4'⟩
      obtain ⟨hb, Ds, e1, e2, e3⟩ := hE.defers.ext hx4'
      obtain ⟨hb0, Ds0, f1, f2, f3⟩ := hE.defers
      have hal4 := hal2.ext (hx3.trans hx4)
      refine ⟨hb, cf.W.heap.size :: Ds0, by simp [f1], List.nodup_cons.2 ⟨fun hm => ?_, f2⟩, fun D hD => ?_⟩
      · obtain ⟨_, g2, _⟩ := f3 _ hm
        exact absurd g2.1 (Nat.lt_irrefl _)
      · rcases List.mem_cons.1 hD with rfl | hD
        · exact ⟨hb0, hal4, ((hx3.trans hx4).frame _ hal2.1 hal2.2.2).trans hd2⟩
        · obtain ⟨g1, g2, g3⟩ := f3 D hD
          exact ⟨g1, g2.ext hx4', (hx4'.frame D g2.1 g2.2.2).trans g3⟩
    rcases hend with ⟨hB, hq⟩ | ⟨c, hB, hq⟩
    · obtain ⟨w4, h1, c4, rfl, h2, h3, h4⟩ := fin .ready none (by simp) hB
      exact ⟨none, _, h1, c4, e, _, rfl, h2, h4, h3, hq⟩
    · obtain ⟨w4, h1, c4, rfl, h2, h3, h4⟩ := fin .done (some c) (by simp) hB
      refine ⟨some c, _, h1, ?_⟩
      refine wpIn_mono (hq c4 _ n h4 h3) ?_
      rintro x a' W' ⟨c5, e5, s5, g1, g2, g3, g4, g5⟩
      exact ⟨c5, e5, s5, g1, h2.trans g2, g3, g4, g5⟩
end Go.Abs
end
section
/-
  An abstract machine over the model, part 14: owned memory is lent to a function that hands back plain data.
-/
namespace Go.Abs
open Go

/-- Data that points nowhere. -/
inductive Flat : D → Prop
  | v (x : Value) : Flat (.v x)
  | agg (cs : List D) (h : ∀ d ∈ cs, Flat d) : Flat (.agg cs)
  | tup (cs : List D) (h : ∀ d ∈ cs, Flat d) : Flat (.tup cs)

theorem Flat.rep {d : D} (h : Flat d) {K K' : Nat → Prop} {β β' : Pl} {W W' : World} {v : Value} (hr : Rep K β W d v) : Rep K' β' W' d v := by
  induction h generalizing v with
  | v x => cases hr; exact .v x
  | agg cs _ ih =>
    cases hr with
    | agg _ xs hl ho hr => exact .agg cs xs hl ho fun i d hd => ih d (List.mem_of_getElem? hd) (hr i d hd)
  | tup cs _ ih =>
    cases hr with
    | tup _ xs hl hr => exact .tup cs xs hl fun i d hd => ih d (List.mem_of_getElem? hd) (hr i d hd)

theorem lend {M M' : Ctx} {f : FuncId} {args args' : List D} {d : D} {s : S} {K : D → S → Prop} (h : APure M f args' d) (hgp : ∀ g x, M.G g = some x → Pu x) (hP : M'.P = M.P) (hG : M'.G = M.G) (hd : Flat d) (hz : FzL s args args') (hk : K d s) : ACall M' f args s K := by
  intro c vals hok hglob hlen hrep
  have hfs : ∀ b, c.K b → frozenK c s b := fun b hb => .inl hb
  have hok0 : Cfg.Ok ⟨frozenK c s, fun _ _ => none, c.W⟩ S0 := ⟨by
    rintro b (hb | ⟨f, i, B, cp, _, hβ⟩)
    · exact hok.kb b hb
    · exact hok.βb f i b cp hβ, fun _ _ _ _ h => (by cases h), fun _ _ _ => rfl, fun _ _ _ h => (by cases h), fun _ _ _ _ _ _ _ _ _ h => (by cases h)⟩
  have hg0 : GlobOk { M with X := fun _ _ => False } ⟨frozenK c s, fun _ _ => none, c.W⟩ :=
    ⟨fun g x hx => ((hglob.g g x (hG ▸ hx)).pure (hgp g x hx)).mono hfs (fun _ _ _ h => h) (fun _ _ => rfl), fun _ _ h => h.elim⟩
  have hcall := h { M with X := fun _ _ => False } rfl rfl S0 (fun d' _ => d' = d) rfl ⟨frozenK c s, fun _ _ => none, c.W⟩ vals hok0 hg0 (by rw [hlen, hz.len]) (fun i x hx => by
    have hi : i < args.length := by
      rw [hz.len]
      rcases Nat.lt_or_ge i args'.length with h | h
      · exact h
      · rw [List.getElem?_eq_none h] at hx; cases hx
    exact fz_rep hok (hz.get i _ x (List.getElem?_eq_getElem hi) hx) (hrep i _ (List.getElem?_eq_getElem hi)))
  rw [hP]
  refine hcall.mono ?_
  rintro x W' ⟨c', v, d', s', rfl, rfl, h1, h2, h3, rfl⟩
  have hnone : ∀ b, (∀ f i cp, (fun _ _ => none : Pl) f i ≠ some (b, cp)) := fun b f i cp h => by cases h
  have hsame : ∀ b, b < c.W.heap.size → c'.W.heap[b]? = c.W.heap[b]? := fun b hb => h1.frame b hb (hnone b)
  have hext : Ext c ⟨c.K, c.β, c'.W⟩ := ⟨fun _ h => h, fun _ _ _ h => h, h1.size, h1.os, h1.tape, h1.output, fun b hb => hsame b (hok.kb b hb), fun b hb _ => hsame b hb, fun b hb => .inl hb, fun f i b cp hb => .inl ⟨f, i, cp, hb⟩⟩
  refine ⟨⟨c.K, c.β, c'.W⟩, v, d', s, rfl, rfl, hext, ⟨fun b hb => Nat.lt_of_lt_of_le (hok.kb b hb) h1.size, fun f i b cp hb => Nat.lt_of_lt_of_le (hok.βb f i b cp hb) h1.size, hok.fresh, ?_, hok.inj⟩, hd.rep h3, hk⟩
  intro f i B hB
  obtain ⟨hlt, ho⟩ := hok.obj f i B hB
  refine ⟨hlt, ?_⟩
  rcases ho with ⟨b, cp, g1, g2, g3⟩ | ho
  · exact .inl ⟨b, cp, g1, g2, g3.mono (fun _ h => h) (fun _ _ _ h => h) hext.keep (hsame b (hok.βb f i b cp g1))⟩
  · exact .inr ho

/-- A call at which owned memory is lent. -/
theorem lend_at {M : Ctx} {P : Program} {G : Nat → Option D} {X : D → Value → Prop} {N : Nat} {r : Option Nat} {b : Nat} {f : FuncId} {args args' : List D} {d : D} {s : S} {K : D → S → Prop} (hP : M.P = P) (hG : M.G = G) (h : APure M f args' d) (hgp : ∀ g x, M.G g = some x → Pu x) (hd : Flat d) (hz : FzL s args args') (hk : K d s) :
    ACall { P := P, G := G, X := X, N := N, r := r, b := b } f args s K := lend h hgp hP.symm hG.symm hd hz hk

/-! ### A loop that counts -/
def CountOn (I : Nat → Env → S → Prop) (N i : Nat) (e : Env) (s : S) : Prop := i < N ∧ I (i + 1) e s
def countA (I : Nat → Env → S → Prop) (N i : Nat) (Q : Exit → Env → S → Prop) : Exit → Env → S → Prop
  | .normal, e, s => CountOn I N i e s
  | x, e, s => Q x e s
section
variable (I : Nat → Env → S → Prop) (N i : Nat) (Q : Exit → Env → S → Prop) (e : Env) (s : S) (id : Nat)
@[go_sem] theorem countA_normal : countA I N i Q .normal e s = CountOn I N i e s := nr rfl
@[go_sem] theorem countA_exit : countA I N i Q (.exit id) e s = Q (.exit id) e s := nr rfl
@[go_sem] theorem countA_ret : countA I N i Q .ret e s = Q .ret e s := nr rfl
@[go_sem] theorem countA_goto : countA I N i Q (.goto id) e s = Q (.goto id) e s := nr rfl
end
theorem awp_count {M : Ctx} {c : Code} {Q : Exit → Env → S → Prop} (N : Nat) (I : Nat → Env → S → Prop) (round : ∀ i e s, i ≤ N → I i e s → wpA M c (countA I N i Q) e s) {e : Env} {s : S} (h : I 0 e s) : AWp M (.loop c) Q e s := by
  refine awp_loop (fun n e s => ∃ i, i ≤ N ∧ n = N - i ∧ I i e s) ?_ (n := N) ⟨0, Nat.zero_le _, rfl, h⟩
  rintro n e s ⟨i, hi, rfl, hI⟩
  refine (wpA_sound c _ e s (round i e s hi hI)).mono ?_
  rintro x e' s' hq
  cases x with
  | normal => exact ⟨N - (i + 1), by have := hq.1; omega, i + 1, hq.1, rfl, hq.2⟩
  | _ => exact hq
/-- The same, where what holds is said over against the start. -/
theorem awp_count0 {M : Ctx} {c : Code} {Q : Exit → Env → S → Prop} {e0 : Env} {s0 : S} (N : Nat) (I : Env → S → Nat → Env → S → Prop) (h : I e0 s0 0 e0 s0) (round : ∀ i e s, i ≤ N → I e0 s0 i e s → wpA M c (countA (I e0 s0) N i Q) e s) : AWp M (.loop c) Q e0 s0 :=
  awp_count N (I e0 s0) round h
/-- Nothing but new objects. -/
def Grow (s0 s : S) : Prop := s0.nx ≤ s.nx ∧ ∀ f i, f < s0.nx → s.o f i = s0.o f i
theorem Grow.refl (s : S) : Grow s s := ⟨Nat.le_refl _, fun _ _ _ => rfl⟩
theorem Grow.set {s0 : S} {o : St} {nx nx' : Nat} {i : Nat} {B : Option SObj} (h : Grow s0 ⟨o, nx⟩) {f : Nat} (hf : s0.nx ≤ f) (hn : nx ≤ nx') : Grow s0 ⟨St.set o f i B, nx'⟩ :=
  ⟨Nat.le_trans h.1 hn, fun f' i' hf' => by
    show (if f' = f ∧ i' = i then B else o f' i') = _
    rw [if_neg (by omega)]; exact h.2 f' i' hf'⟩
/-- Two stores alike below n. -/
def SameB (n : Nat) (o o' : St) : Prop := ∀ f i, f < n → o' f i = o f i
theorem SameB.refl (n : Nat) (o : St) : SameB n o o := fun _ _ _ => rfl
theorem SameB.set {n : Nat} {o o' : St} (h : SameB n o o') {f : Nat} (hf : n ≤ f) (i : Nat) (B : Option SObj) : SameB n o (St.set o' f i B) := fun f' i' hf' => by
  show (if f' = f ∧ i' = i then B else o' f' i') = _
  rw [if_neg (by omega)]; exact h f' i' hf'
theorem SameB.trans {n m : Nat} {o o' o'' : St} (h : SameB n o o') (k : SameB m o' o'') (hnm : n ≤ m) : SameB n o o'' := fun f i hf => (k f i (Nat.lt_of_lt_of_le hf hnm)).trans (h f i hf)
theorem Grow.of {o o' : St} {n n' : Nat} (h : n ≤ n') (k : SameB n o o') : Grow ⟨o, n⟩ ⟨o', n'⟩ := ⟨h, k⟩
theorem Grow.same {s0 : S} {o : St} {nx : Nat} (h : Grow s0 ⟨o, nx⟩) : SameB s0.nx s0.o o := h.2
theorem Grow.to {s0 : S} {o' : St} {n' : Nat} (h : s0.nx ≤ n') (k : SameB s0.nx s0.o o') : Grow s0 ⟨o', n'⟩ := ⟨h, k⟩

theorem wrap_u64 (n : Int) : IntKind.u64.wrap n = n % 18446744073709551616 := by simp [IntKind.wrap, IntKind.bits, IntKind.signed]
theorem wrap_i64 (n : Int) (h1 : -9223372036854775808 ≤ n) (h2 : n ≤ 9223372036854775807) : IntKind.i64.wrap n = n := by
  simp [IntKind.wrap, IntKind.bits, IntKind.signed]
  split <;> omega
end Go.Abs
end
section
/-
  The program's data, and what its functions compute, as plain functions on lists and numbers. No program and no machine is named here.
-/
namespace Es

structure Ratio where
  num : Int
  den : Int
  deriving DecidableEq
theorem ratio_beq (a b : Ratio) : (a == b) = (a.num == b.num && a.den == b.den) := by
  cases a; cases b; rw [Bool.eq_iff_iff]; simp
instance : Inhabited Ratio := ⟨⟨0, 0⟩⟩
structure Unt where
  name : List UInt8
  kind : Int
  base : Int
  factor : Ratio
instance : Inhabited Unt := ⟨⟨[], 0, 0, default⟩⟩
structure ActT where
  kind : Int
  role : Int
  give : Int
  to : Int
  unit : Int
  lot : Ratio
instance : Inhabited ActT := ⟨⟨0, 0, 0, 0, 0, default⟩⟩
structure Cond where
  clause : Int
  is : Int
  deriving DecidableEq
instance : Inhabited Cond := ⟨⟨0, 0⟩⟩
structure Clause where
  kind : Int
  role : Int
  act : Int
  need : Int
  start : List Cond
  after : Int
  grace : Int
  business : Bool
  final : Bool
  pause : Int
  resume : Int
  value : Ratio
  unit : Int
  to : Int
  waived : Bool
instance : Inhabited Clause := ⟨⟨0, 0, 0, 0, [], 0, 0, false, false, 0, 0, default, 0, 0, false⟩⟩
structure Contract where
  parties : Int
  holders : List Int
  units : List Unt
  acts : List ActT
  clauses : List Clause
  days : Int
  off : List Int
instance : Inhabited Contract := ⟨⟨0, [], [], [], [], 0, []⟩⟩
structure Mark where
  status : Int
  left : Int
  got : Int
  bearer : Int
  paused : Bool
  deriving DecidableEq
instance : Inhabited Mark := ⟨⟨0, 0, 0, 0, false⟩⟩
structure State where
  day : Int
  holders : List Int
  used : List Bool
  marks : List Mark
instance : Inhabited State := ⟨⟨0, [], [], []⟩⟩

/-- The element at a place given by an integer. -/
def at_ {α : Type} [Inhabited α] (l : List α) (i : Int) : α := l.getD i.toNat default

/-- How many. -/
def len {α : Type} (l : List α) : Int := l.length

theorem at_nat {α : Type} [Inhabited α] {l : List α} {i : Nat} (h : i < l.length) : at_ l (i : Int) = l[i] := by simp [at_, List.getD, h]
theorem take_at {α : Type} [Inhabited α] {l : List α} {i : Nat} (h : i < l.length) : l.take (i + 1) = l.take i ++ [at_ l (i : Int)] := by rw [List.take_succ_eq_append_getElem h, at_nat h]
theorem at_mem {α : Type} [Inhabited α] {l : List α} {i : Nat} (h : i < l.length) : at_ l (i : Int) ∈ l := by rw [at_nat h]; exact List.getElem_mem _
theorem all_step {α : Type} [Inhabited α] {l : List α} {i : Nat} {p : α → Bool} (h : i < l.length) (hall : ∀ x ∈ l.take i, p x = true) (hp : p (at_ l (i : Int)) = true) : ∀ x ∈ l.take (i + 1), p x = true := by
  intro x hx
  rw [take_at h] at hx
  rcases List.mem_append.1 hx with hx | hx
  · exact hall x hx
  · simp only [List.mem_singleton] at hx; rw [hx]; exact hp
theorem all_end {α : Type} {l : List α} {i : Nat} {p : α → Bool} (h : ¬ (i : Int) < len l) (hi : i ≤ l.length) (hall : ∀ x ∈ l.take i, p x = true) : l.all p = true := by
  have : i = l.length := by simp only [len] at h; omega
  rw [this, List.take_length] at hall
  exact List.all_eq_true.2 hall
theorem all_bad {α : Type} [Inhabited α] {l : List α} {i : Nat} {p : α → Bool} (h : i < l.length) (hp : p (at_ l (i : Int)) = false) : l.all p = false := by
  rw [List.all_eq_false]; exact ⟨_, at_mem h, by simp [hp]⟩
theorem drop_at {α : Type} [Inhabited α] {l : List α} {i : Nat} (h : i < l.length) : l.drop i = at_ l (i : Int) :: l.drop (i + 1) := by rw [List.drop_eq_getElem_cons h, at_nat h]
theorem len_lt {α : Type} {l : List α} {i : Nat} : (i : Int) < len l ↔ i < l.length := by simp [len]

/-! ### contract -/
def under (i n : Int) : Bool := decide (0 ≤ i) && decide (i < n)
def within (i low high : Int) : Bool := decide (low ≤ i) && decide (i ≤ high)
def natural (c : Contract) (a : Int) : Bool := under a (len c.acts) && ((at_ c.acts a).kind == 1) && ((at_ c.acts a).role == -1)
def moves (a : ActT) : Bool := a.kind == 2 || a.kind == 3

/-! ### ratio -/
/-- A number's magnitude, as the machine reckons it. -/
def mag (n : Int) : Int := (if n < 0 then -(n % 18446744073709551616) else n) % 18446744073709551616
theorem mag_nonneg (n : Int) : 0 ≤ mag n := Int.emod_nonneg _ (by decide)
def ratValid (a : Ratio) : Bool := decide (0 < a.den) && decide (a.den ≤ 1000000) && decide (mag a.num ≤ 1000000000000) && (Nat.gcd (mag a.num).toNat (mag a.den).toNat == 1)
def positive (a : Ratio) : Bool := ratValid a && decide (0 < a.num)

/-! ### contract -/
def noneR : Ratio := ⟨0, 1⟩
def wholeR : Ratio := ⟨1, 1⟩
def still (a : ActT) : Bool := a.unit == -1 && a.lot == noneR
def role (c : Contract) (r : Int) : Bool := under r (len c.holders)
def act (c : Contract) (a : ActT) : Bool :=
  if moves a then role c a.role && role c a.give && under a.to c.parties && still a
  else if a.kind != 1 || a.give != 0 || (a.to != -1 && !role c a.to) then false
  else if a.role == -1 then still a
  else role c a.role && (still a || (under a.unit (len c.units) && positive a.lot))
def condOk (c : Contract) (i : Int) (d : Cond) : Bool := under d.clause (len c.clauses) && (d.clause != i) && within d.is 1 4
def clauseB (c : Contract) (i : Int) (x : Clause) (doer : Bool) (need grace : Int) (priced final : Bool) : Bool :=
  if !doer || !under x.act (len c.acts) || !within x.need 1 need || !within x.grace 0 grace || !within x.after 1 400 || (x.final && !final) || decide (8 < len x.start) then false
  else if !x.start.all (condOk c i) then false
  else if (x.pause != -1 || x.resume != -1) && (!natural c x.pause || !natural c x.resume || x.pause == x.resume) then false
  else if x.unit == -1 then x.value == noneR && x.to == -1
  else priced && under x.unit (len c.units) && (at_ c.units x.unit).kind == 2 && positive x.value && under x.to (len c.holders)
def clauseOk (c : Contract) (i : Int) : Bool :=
  let x := at_ c.clauses i
  let doer := under x.role (len c.holders) && !natural c x.act
  if x.kind == 1 then clauseB c i x doer 9 400 true true
  else if x.kind == 2 then clauseB c i x doer 1 0 true true
  else if x.kind == 3 then clauseB c i x doer 1 0 false false
  else if x.kind == 4 then clauseB c i x (x.role == -1) 1 0 false false
  else false

/-! ### quantity -/
def utAt (us : List Unt) (i : Int) : Unt × Bool := if i < 0 ∨ len us ≤ i then (default, false) else (at_ us i, true)
def fits (us : List Unt) (i : Int) (names : List (List UInt8)) : Bool :=
  let u := at_ us i
  let b := utAt us u.base
  if !b.2 || decide (20 ≤ i) || (u.name == []) || names.contains u.name || !ratValid u.factor || decide (u.factor.num ≤ 0) then false
  else if (u.base == i) && !(u.factor == wholeR) then false
  else ((u.kind == 1) || (u.kind == 2)) && (b.1.kind == u.kind) && (b.1.base == u.base)
def qBad (us : List Unt) : Option Nat := (List.range us.length).find? fun i => !fits us i ((us.take i).map (·.name))
def qValid (us : List Unt) : Int × Bool :=
  match qBad us with
  | some i => (i, false)
  | .none => (-1, true)
theorem qBad_some {us : List Unt} {k : Nat} (hk : k < us.length) (h : fits us k ((us.take k).map (·.name)) = false) (hall : ∀ j : Nat, j < k → fits us j ((us.take j).map (·.name)) = true) : qBad us = some k := by
  unfold qBad
  rw [List.find?_range_eq_some]
  exact ⟨by simp only [h, Bool.not_false], by simpa using hk, fun j hj => by simp only [hall j hj, Bool.not_true, Bool.not_false]⟩
theorem qBad_none {us : List Unt} (hall : ∀ j : Nat, j < us.length → fits us j ((us.take j).map (·.name)) = true) : qBad us = .none := by
  unfold qBad
  rw [List.find?_eq_none]
  intro j hj
  simp only [hall j (List.mem_range.1 hj), Bool.not_true, Bool.false_eq_true, not_false_eq_true]
theorem fits_new {us : List Unt} {i : Int} {names : List (List UInt8)} (h : fits us i names = true) : names.contains (at_ us i).name = false := by
  unfold fits at h
  simp only at h
  split at h
  · cases h
  · rename_i hh; simp only [Bool.or_eq_true, not_or, Bool.not_eq_true] at hh; exact hh.1.1.2

end Es
end
section
/-
  How the program's data read as abstract values.
-/
namespace Go.Abs
open Go

def iD (n : Int) : D := .v (.int .i64 n)
@[go_sem] theorem iD_eq (n : Int) : iD n = .v (.int .i64 n) := nr rfl
def bD (b : Bool) : D := .v (.bool b)
@[go_sem] theorem bD_eq (b : Bool) : bD b = .v (.bool b) := nr rfl
def sD (l : List UInt8) : D := .v (.string ⟨l.toArray⟩)
@[go_sem] theorem sD_eq (l : List UInt8) : sD l = .v (.string ⟨l.toArray⟩) := nr rfl
def rowsOf {α : Type} [Inhabited α] (f : α → Nat → D) (l : List α) : Nat → Nat → D := fun i j => f (l.getD i default) j
@[go_sem] theorem rowsOf_at {α : Type} [Inhabited α] (f : α → Nat → D) (l : List α) (i j : Nat) : rowsOf f l i j = f (l.getD i default) j := nr rfl
/-- A slice of data. -/
def slD {α : Type} [Inhabited α] (k : Nat) (f : α → Nat → D) (l : List α) : D := .sl k l.length (rowsOf f l)
theorem slD_eq {α : Type} [Inhabited α] (k : Nat) (f : α → Nat → D) (l : List α) : slD k f l = .sl k l.length (rowsOf f l) := nr rfl
section
variable {α : Type} [Inhabited α] (k : Nat) (f : α → Nat → D) (l : List α)
@[go_sem] theorem slD_cells : (slD k f l).cells? = some [slD k f l] := nr rfl
@[go_sem] theorem slD_len (P : Program) (t : Nat) (s : S) (K : D → S → Prop) : aLen P t (slD k f l) 1 1 s K = (tKind P t = 1 ∧ K (.v (.int .i64 (Es.len l))) s) := by simp [slD, aLen, Es.len]
@[go_sem] theorem slD_idx (P : Program) (t k' : Nat) (i : Int) (s : S) (K : D → S → Prop) : AIdxL P t (some k') (slD k f l) i s K = ((k = k' ∧ 0 ≤ i ∧ i < Es.len l) ∧ K (.rp k (f (Es.at_ l i)) 0) s) := nr rfl
@[go_sem] theorem slD_src (s : S) (k' : Nat) : srcOf (slD k f l) s k' = some (k = k', l.length, rowsOf f l) := nr rfl
@[go_sem] theorem slD_eql (P : Program) (t : Nat) (s : S) (K : D → S → Prop) : aBin P .eql t (slD k f l) (.v (.slice none 0 0)) s K = (tKind P t = 1 ∧ ∀ q : Bool, (q = true → l.length = 0) → K (.v (.bool q)) s) := nr rfl
@[go_sem] theorem slD_neq (P : Program) (t : Nat) (s : S) (K : D → S → Prop) : aBin P .neq t (slD k f l) (.v (.slice none 0 0)) s K = (tKind P t = 1 ∧ ∀ q : Bool, (q = true → l.length = 0) → K (.v (.bool (!q))) s) := nr rfl
@[go_sem] theorem load_rp (n k : Nat) (ag : Bool) (row : Nat → D) (s : S) (K : D → S → Prop) : ALoadL (some (ag, n)) (.rp k row 0) s K = ((n ≤ k ∧ (ag = false → n = 1)) ∧ K (mkv ag n row) s) := by
  have : offRow row 0 = row := by funext j; simp [offRow]
  simp only [ALoadL, this, Nat.zero_add]
end
def ratC (x : Es.Ratio) : Nat → D
  | 0 => .v (.int .i64 x.num)
  | 1 => .v (.int .i64 x.den)
  | _ => .any
@[go_sem] theorem ratC_0 (x : Es.Ratio) : ratC x 0 = .v (.int .i64 x.num) := nr rfl
@[go_sem] theorem ratC_1 (x : Es.Ratio) : ratC x 1 = .v (.int .i64 x.den) := nr rfl
def untC (x : Es.Unt) : Nat → D
  | 0 => .v (.string ⟨x.name.toArray⟩)
  | 1 => .v (.int .i64 x.kind)
  | 2 => .v (.int .i64 x.base)
  | 3 => .v (.int .i64 x.factor.num)
  | 4 => .v (.int .i64 x.factor.den)
  | _ => .any
@[go_sem] theorem untC_0 (x : Es.Unt) : untC x 0 = .v (.string ⟨x.name.toArray⟩) := nr rfl
@[go_sem] theorem untC_1 (x : Es.Unt) : untC x 1 = .v (.int .i64 x.kind) := nr rfl
@[go_sem] theorem untC_2 (x : Es.Unt) : untC x 2 = .v (.int .i64 x.base) := nr rfl
@[go_sem] theorem untC_3 (x : Es.Unt) : untC x 3 = .v (.int .i64 x.factor.num) := nr rfl
@[go_sem] theorem untC_4 (x : Es.Unt) : untC x 4 = .v (.int .i64 x.factor.den) := nr rfl
def actC (x : Es.ActT) : Nat → D
  | 0 => .v (.int .i64 x.kind)
  | 1 => .v (.int .i64 x.role)
  | 2 => .v (.int .i64 x.give)
  | 3 => .v (.int .i64 x.to)
  | 4 => .v (.int .i64 x.unit)
  | 5 => .v (.int .i64 x.lot.num)
  | 6 => .v (.int .i64 x.lot.den)
  | _ => .any
@[go_sem] theorem actC_0 (x : Es.ActT) : actC x 0 = .v (.int .i64 x.kind) := nr rfl
@[go_sem] theorem actC_1 (x : Es.ActT) : actC x 1 = .v (.int .i64 x.role) := nr rfl
@[go_sem] theorem actC_2 (x : Es.ActT) : actC x 2 = .v (.int .i64 x.give) := nr rfl
@[go_sem] theorem actC_3 (x : Es.ActT) : actC x 3 = .v (.int .i64 x.to) := nr rfl
@[go_sem] theorem actC_4 (x : Es.ActT) : actC x 4 = .v (.int .i64 x.unit) := nr rfl
@[go_sem] theorem actC_5 (x : Es.ActT) : actC x 5 = .v (.int .i64 x.lot.num) := nr rfl
@[go_sem] theorem actC_6 (x : Es.ActT) : actC x 6 = .v (.int .i64 x.lot.den) := nr rfl
def condC (x : Es.Cond) : Nat → D
  | 0 => .v (.int .i64 x.clause)
  | 1 => .v (.int .i64 x.is)
  | _ => .any
@[go_sem] theorem condC_0 (x : Es.Cond) : condC x 0 = .v (.int .i64 x.clause) := nr rfl
@[go_sem] theorem condC_1 (x : Es.Cond) : condC x 1 = .v (.int .i64 x.is) := nr rfl
def clsC (x : Es.Clause) : Nat → D
  | 0 => .v (.int .i64 x.kind)
  | 1 => .v (.int .i64 x.role)
  | 2 => .v (.int .i64 x.act)
  | 3 => .v (.int .i64 x.need)
  | 4 => slD 2 condC x.start
  | 5 => .v (.int .i64 x.after)
  | 6 => .v (.int .i64 x.grace)
  | 7 => .v (.bool x.business)
  | 8 => .v (.bool x.final)
  | 9 => .v (.int .i64 x.pause)
  | 10 => .v (.int .i64 x.resume)
  | 11 => .v (.int .i64 x.value.num)
  | 12 => .v (.int .i64 x.value.den)
  | 13 => .v (.int .i64 x.unit)
  | 14 => .v (.int .i64 x.to)
  | 15 => .v (.bool x.waived)
  | _ => .any
@[go_sem] theorem clsC_0 (x : Es.Clause) : clsC x 0 = .v (.int .i64 x.kind) := nr rfl
@[go_sem] theorem clsC_1 (x : Es.Clause) : clsC x 1 = .v (.int .i64 x.role) := nr rfl
@[go_sem] theorem clsC_2 (x : Es.Clause) : clsC x 2 = .v (.int .i64 x.act) := nr rfl
@[go_sem] theorem clsC_3 (x : Es.Clause) : clsC x 3 = .v (.int .i64 x.need) := nr rfl
@[go_sem] theorem clsC_4 (x : Es.Clause) : clsC x 4 = slD 2 condC x.start := nr rfl
@[go_sem] theorem clsC_5 (x : Es.Clause) : clsC x 5 = .v (.int .i64 x.after) := nr rfl
@[go_sem] theorem clsC_6 (x : Es.Clause) : clsC x 6 = .v (.int .i64 x.grace) := nr rfl
@[go_sem] theorem clsC_7 (x : Es.Clause) : clsC x 7 = .v (.bool x.business) := nr rfl
@[go_sem] theorem clsC_8 (x : Es.Clause) : clsC x 8 = .v (.bool x.final) := nr rfl
@[go_sem] theorem clsC_9 (x : Es.Clause) : clsC x 9 = .v (.int .i64 x.pause) := nr rfl
@[go_sem] theorem clsC_10 (x : Es.Clause) : clsC x 10 = .v (.int .i64 x.resume) := nr rfl
@[go_sem] theorem clsC_11 (x : Es.Clause) : clsC x 11 = .v (.int .i64 x.value.num) := nr rfl
@[go_sem] theorem clsC_12 (x : Es.Clause) : clsC x 12 = .v (.int .i64 x.value.den) := nr rfl
@[go_sem] theorem clsC_13 (x : Es.Clause) : clsC x 13 = .v (.int .i64 x.unit) := nr rfl
@[go_sem] theorem clsC_14 (x : Es.Clause) : clsC x 14 = .v (.int .i64 x.to) := nr rfl
@[go_sem] theorem clsC_15 (x : Es.Clause) : clsC x 15 = .v (.bool x.waived) := nr rfl
def mrkC (x : Es.Mark) : Nat → D
  | 0 => .v (.int .i64 x.status)
  | 1 => .v (.int .i64 x.left)
  | 2 => .v (.int .i64 x.got)
  | 3 => .v (.int .i64 x.bearer)
  | 4 => .v (.bool x.paused)
  | _ => .any
@[go_sem] theorem mrkC_0 (x : Es.Mark) : mrkC x 0 = .v (.int .i64 x.status) := nr rfl
@[go_sem] theorem mrkC_1 (x : Es.Mark) : mrkC x 1 = .v (.int .i64 x.left) := nr rfl
@[go_sem] theorem mrkC_2 (x : Es.Mark) : mrkC x 2 = .v (.int .i64 x.got) := nr rfl
@[go_sem] theorem mrkC_3 (x : Es.Mark) : mrkC x 3 = .v (.int .i64 x.bearer) := nr rfl
@[go_sem] theorem mrkC_4 (x : Es.Mark) : mrkC x 4 = .v (.bool x.paused) := nr rfl
def intC (x : Int) : Nat → D
  | 0 => .v (.int .i64 x)
  | _ => .any
@[go_sem] theorem intC_at (x : Int) : intC x 0 = .v (.int .i64 x) := nr rfl
def u64C (x : Nat) : Nat → D
  | 0 => .v (.int .u64 x)
  | _ => .any
@[go_sem] theorem u64C_at (x : Nat) : u64C x 0 = .v (.int .u64 x) := nr rfl
theorem pu_u64C (x : Nat) (j : Nat) : Pu (u64C x j) := by unfold u64C; split <;> constructor
def booC (x : Bool) : Nat → D
  | 0 => .v (.bool x)
  | _ => .any
@[go_sem] theorem booC_at (x : Bool) : booC x 0 = .v (.bool x) := nr rfl

def ratD (x : Es.Ratio) : D := .agg [.v (.int .i64 x.num), .v (.int .i64 x.den)]
theorem ratD_eq (x : Es.Ratio) : ratD x = .agg [.v (.int .i64 x.num), .v (.int .i64 x.den)] := nr rfl
@[go_sem] theorem ratD_fold (x : Es.Ratio) : D.agg [.v (.int .i64 x.num), .v (.int .i64 x.den)] = ratD x := nr rfl
@[go_sem] theorem ratD_cells (x : Es.Ratio) : (ratD x).cells? = some [.v (.int .i64 x.num), .v (.int .i64 x.den)] := nr rfl
@[go_sem] theorem ratD_load (x : Es.Ratio) : mkv true 2 (offRow (ratC x) 0) = ratD x := nr rfl
@[go_sem] theorem ratD_off (x : Es.Ratio) : mkv true 2 (ratC x) = ratD x := nr rfl
def condD (x : Es.Cond) : D := .agg [.v (.int .i64 x.clause), .v (.int .i64 x.is)]
theorem condD_eq (x : Es.Cond) : condD x = .agg [.v (.int .i64 x.clause), .v (.int .i64 x.is)] := nr rfl
@[go_sem] theorem condD_fold (x : Es.Cond) : D.agg [.v (.int .i64 x.clause), .v (.int .i64 x.is)] = condD x := nr rfl
@[go_sem] theorem condD_cells (x : Es.Cond) : (condD x).cells? = some [.v (.int .i64 x.clause), .v (.int .i64 x.is)] := nr rfl
@[go_sem] theorem condD_load (x : Es.Cond) : mkv true 2 (offRow (condC x) 0) = condD x := nr rfl
@[go_sem] theorem condD_off (x : Es.Cond) : mkv true 2 (condC x) = condD x := nr rfl
def actD (x : Es.ActT) : D := .agg [.v (.int .i64 x.kind), .v (.int .i64 x.role), .v (.int .i64 x.give), .v (.int .i64 x.to), .v (.int .i64 x.unit), .v (.int .i64 x.lot.num), .v (.int .i64 x.lot.den)]
theorem actD_eq (x : Es.ActT) : actD x = .agg [.v (.int .i64 x.kind), .v (.int .i64 x.role), .v (.int .i64 x.give), .v (.int .i64 x.to), .v (.int .i64 x.unit), .v (.int .i64 x.lot.num), .v (.int .i64 x.lot.den)] := nr rfl
@[go_sem] theorem actD_fold (x : Es.ActT) : D.agg [.v (.int .i64 x.kind), .v (.int .i64 x.role), .v (.int .i64 x.give), .v (.int .i64 x.to), .v (.int .i64 x.unit), .v (.int .i64 x.lot.num), .v (.int .i64 x.lot.den)] = actD x := nr rfl
@[go_sem] theorem actD_cells (x : Es.ActT) : (actD x).cells? = some [.v (.int .i64 x.kind), .v (.int .i64 x.role), .v (.int .i64 x.give), .v (.int .i64 x.to), .v (.int .i64 x.unit), .v (.int .i64 x.lot.num), .v (.int .i64 x.lot.den)] := nr rfl
@[go_sem] theorem actD_load (x : Es.ActT) : mkv true 7 (offRow (actC x) 0) = actD x := nr rfl
@[go_sem] theorem actD_off (x : Es.ActT) : mkv true 7 (actC x) = actD x := nr rfl
def untD (x : Es.Unt) : D := .agg [.v (.string ⟨x.name.toArray⟩), .v (.int .i64 x.kind), .v (.int .i64 x.base), .v (.int .i64 x.factor.num), .v (.int .i64 x.factor.den)]
theorem untD_eq (x : Es.Unt) : untD x = .agg [.v (.string ⟨x.name.toArray⟩), .v (.int .i64 x.kind), .v (.int .i64 x.base), .v (.int .i64 x.factor.num), .v (.int .i64 x.factor.den)] := nr rfl
@[go_sem] theorem untD_fold (x : Es.Unt) : D.agg [.v (.string ⟨x.name.toArray⟩), .v (.int .i64 x.kind), .v (.int .i64 x.base), .v (.int .i64 x.factor.num), .v (.int .i64 x.factor.den)] = untD x := nr rfl
@[go_sem] theorem untD_cells (x : Es.Unt) : (untD x).cells? = some [.v (.string ⟨x.name.toArray⟩), .v (.int .i64 x.kind), .v (.int .i64 x.base), .v (.int .i64 x.factor.num), .v (.int .i64 x.factor.den)] := nr rfl
@[go_sem] theorem untD_load (x : Es.Unt) : mkv true 5 (offRow (untC x) 0) = untD x := nr rfl
@[go_sem] theorem untD_off (x : Es.Unt) : mkv true 5 (untC x) = untD x := nr rfl
def mrkD (x : Es.Mark) : D := .agg [.v (.int .i64 x.status), .v (.int .i64 x.left), .v (.int .i64 x.got), .v (.int .i64 x.bearer), .v (.bool x.paused)]
theorem mrkD_eq (x : Es.Mark) : mrkD x = .agg [.v (.int .i64 x.status), .v (.int .i64 x.left), .v (.int .i64 x.got), .v (.int .i64 x.bearer), .v (.bool x.paused)] := nr rfl
@[go_sem] theorem mrkD_fold (x : Es.Mark) : D.agg [.v (.int .i64 x.status), .v (.int .i64 x.left), .v (.int .i64 x.got), .v (.int .i64 x.bearer), .v (.bool x.paused)] = mrkD x := nr rfl
@[go_sem] theorem mrkD_cells (x : Es.Mark) : (mrkD x).cells? = some [.v (.int .i64 x.status), .v (.int .i64 x.left), .v (.int .i64 x.got), .v (.int .i64 x.bearer), .v (.bool x.paused)] := nr rfl
@[go_sem] theorem mrkD_load (x : Es.Mark) : mkv true 5 (offRow (mrkC x) 0) = mrkD x := nr rfl
@[go_sem] theorem mrkD_off (x : Es.Mark) : mkv true 5 (mrkC x) = mrkD x := nr rfl
def clsD (x : Es.Clause) : D := .agg [.v (.int .i64 x.kind), .v (.int .i64 x.role), .v (.int .i64 x.act), .v (.int .i64 x.need), slD 2 condC x.start, .v (.int .i64 x.after), .v (.int .i64 x.grace), .v (.bool x.business), .v (.bool x.final), .v (.int .i64 x.pause), .v (.int .i64 x.resume), .v (.int .i64 x.value.num), .v (.int .i64 x.value.den), .v (.int .i64 x.unit), .v (.int .i64 x.to), .v (.bool x.waived)]
theorem clsD_eq (x : Es.Clause) : clsD x = .agg [.v (.int .i64 x.kind), .v (.int .i64 x.role), .v (.int .i64 x.act), .v (.int .i64 x.need), slD 2 condC x.start, .v (.int .i64 x.after), .v (.int .i64 x.grace), .v (.bool x.business), .v (.bool x.final), .v (.int .i64 x.pause), .v (.int .i64 x.resume), .v (.int .i64 x.value.num), .v (.int .i64 x.value.den), .v (.int .i64 x.unit), .v (.int .i64 x.to), .v (.bool x.waived)] := nr rfl
@[go_sem] theorem clsD_fold (x : Es.Clause) : D.agg [.v (.int .i64 x.kind), .v (.int .i64 x.role), .v (.int .i64 x.act), .v (.int .i64 x.need), slD 2 condC x.start, .v (.int .i64 x.after), .v (.int .i64 x.grace), .v (.bool x.business), .v (.bool x.final), .v (.int .i64 x.pause), .v (.int .i64 x.resume), .v (.int .i64 x.value.num), .v (.int .i64 x.value.den), .v (.int .i64 x.unit), .v (.int .i64 x.to), .v (.bool x.waived)] = clsD x := nr rfl
@[go_sem] theorem clsD_cells (x : Es.Clause) : (clsD x).cells? = some [.v (.int .i64 x.kind), .v (.int .i64 x.role), .v (.int .i64 x.act), .v (.int .i64 x.need), slD 2 condC x.start, .v (.int .i64 x.after), .v (.int .i64 x.grace), .v (.bool x.business), .v (.bool x.final), .v (.int .i64 x.pause), .v (.int .i64 x.resume), .v (.int .i64 x.value.num), .v (.int .i64 x.value.den), .v (.int .i64 x.unit), .v (.int .i64 x.to), .v (.bool x.waived)] := nr rfl
@[go_sem] theorem clsD_load (x : Es.Clause) : mkv true 16 (offRow (clsC x) 0) = clsD x := nr rfl
@[go_sem] theorem clsD_off (x : Es.Clause) : mkv true 16 (clsC x) = clsD x := nr rfl
def conD (x : Es.Contract) : D := .agg [.v (.int .i64 x.parties), slD 1 intC x.holders, slD 5 untC x.units, slD 7 actC x.acts, slD 16 clsC x.clauses, .v (.int .i64 x.days), slD 1 intC x.off]
theorem conD_eq (x : Es.Contract) : conD x = .agg [.v (.int .i64 x.parties), slD 1 intC x.holders, slD 5 untC x.units, slD 7 actC x.acts, slD 16 clsC x.clauses, .v (.int .i64 x.days), slD 1 intC x.off] := nr rfl
@[go_sem] theorem conD_fold (x : Es.Contract) : D.agg [.v (.int .i64 x.parties), slD 1 intC x.holders, slD 5 untC x.units, slD 7 actC x.acts, slD 16 clsC x.clauses, .v (.int .i64 x.days), slD 1 intC x.off] = conD x := nr rfl
@[go_sem] theorem conD_cells (x : Es.Contract) : (conD x).cells? = some [.v (.int .i64 x.parties), slD 1 intC x.holders, slD 5 untC x.units, slD 7 actC x.acts, slD 16 clsC x.clauses, .v (.int .i64 x.days), slD 1 intC x.off] := nr rfl
def staD (x : Es.State) : D := .agg [.v (.int .i64 x.day), slD 1 intC x.holders, slD 1 booC x.used, slD 5 mrkC x.marks]
theorem staD_eq (x : Es.State) : staD x = .agg [.v (.int .i64 x.day), slD 1 intC x.holders, slD 1 booC x.used, slD 5 mrkC x.marks] := nr rfl
@[go_sem] theorem staD_fold (x : Es.State) : D.agg [.v (.int .i64 x.day), slD 1 intC x.holders, slD 1 booC x.used, slD 5 mrkC x.marks] = staD x := nr rfl
@[go_sem] theorem staD_cells (x : Es.State) : (staD x).cells? = some [.v (.int .i64 x.day), slD 1 intC x.holders, slD 1 booC x.used, slD 5 mrkC x.marks] := nr rfl
@[go_sem] theorem clsD_value (x : Es.Clause) : mkv true 2 (offRow (clsC x) 11) = ratD x.value := nr rfl
@[go_sem] theorem actD_lot (x : Es.ActT) : mkv true 2 (offRow (actC x) 5) = ratD x.lot := nr rfl
@[go_sem] theorem untD_factor (x : Es.Unt) : mkv true 2 (offRow (untC x) 3) = ratD x.factor := nr rfl
@[go_sem] theorem mrkD_mk (a b c d : Int) (e : Bool) : D.agg [.v (.int .i64 a), .v (.int .i64 b), .v (.int .i64 c), .v (.int .i64 d), .v (.bool e)] = mrkD ⟨a, b, c, d, e⟩ := nr rfl

theorem pu_slD {α : Type} [Inhabited α] {k : Nat} {f : α → Nat → D} (h : ∀ x j, Pu (f x j)) (l : List α) : Pu (slD k f l) := .sl _ _ _ fun _ _ _ _ => h _ _
theorem pu_v (x : Value) : Pu (.v x) := .v x
theorem pu_intC (x : Int) (j : Nat) : Pu (intC x j) := by unfold intC; split <;> constructor
theorem pu_booC (x : Bool) (j : Nat) : Pu (booC x j) := by unfold booC; split <;> constructor
theorem pu_ratC (x : Es.Ratio) (j : Nat) : Pu (ratC x j) := by unfold ratC; split <;> constructor
theorem pu_condC (x : Es.Cond) (j : Nat) : Pu (condC x j) := by unfold condC; split <;> constructor
theorem pu_untC (x : Es.Unt) (j : Nat) : Pu (untC x j) := by unfold untC; split <;> constructor
theorem pu_actC (x : Es.ActT) (j : Nat) : Pu (actC x j) := by unfold actC; split <;> constructor
theorem pu_mrkC (x : Es.Mark) (j : Nat) : Pu (mrkC x j) := by unfold mrkC; split <;> constructor
theorem pu_clsC (x : Es.Clause) (j : Nat) : Pu (clsC x j) := by
  unfold clsC; split <;> first
    | exact .v _
    | exact .any
    | exact pu_slD pu_condC x.start
@[go_sem] theorem ratD_bin (P : Program) (op : BinOp) (t : Nat) (x y : Es.Ratio) (s : S) (K : D → S → Prop) : aBin P op t (ratD x) (ratD y) s K = ABinA P op t (eqShape P 10000 t) [.v (.int .i64 x.num), .v (.int .i64 x.den)] [.v (.int .i64 y.num), .v (.int .i64 y.den)] s K := nr rfl
@[go_sem] theorem mrkD_bin (P : Program) (op : BinOp) (t : Nat) (x y : Es.Mark) (s : S) (K : D → S → Prop) : aBin P op t (mrkD x) (mrkD y) s K = ABinA P op t (eqShape P 10000 t) [.v (.int .i64 x.status), .v (.int .i64 x.left), .v (.int .i64 x.got), .v (.int .i64 x.bearer), .v (.bool x.paused)] [.v (.int .i64 y.status), .v (.int .i64 y.left), .v (.int .i64 y.got), .v (.int .i64 y.bearer), .v (.bool y.paused)] s K := nr rfl
def conC (x : Es.Contract) : Nat → D
  | 0 => .v (.int .i64 x.parties)
  | 1 => slD 1 intC x.holders
  | 2 => slD 5 untC x.units
  | 3 => slD 7 actC x.acts
  | 4 => slD 16 clsC x.clauses
  | 5 => .v (.int .i64 x.days)
  | 6 => slD 1 intC x.off
  | _ => .any
@[go_sem] theorem conC_0 (x : Es.Contract) : conC x 0 = .v (.int .i64 x.parties) := nr rfl
@[go_sem] theorem conC_1 (x : Es.Contract) : conC x 1 = slD 1 intC x.holders := nr rfl
@[go_sem] theorem conC_2 (x : Es.Contract) : conC x 2 = slD 5 untC x.units := nr rfl
@[go_sem] theorem conC_3 (x : Es.Contract) : conC x 3 = slD 7 actC x.acts := nr rfl
@[go_sem] theorem conC_4 (x : Es.Contract) : conC x 4 = slD 16 clsC x.clauses := nr rfl
@[go_sem] theorem conC_5 (x : Es.Contract) : conC x 5 = .v (.int .i64 x.days) := nr rfl
@[go_sem] theorem conC_6 (x : Es.Contract) : conC x 6 = slD 1 intC x.off := nr rfl
@[go_sem] theorem conD_load (x : Es.Contract) : mkv true 7 (offRow (conC x) 0) = conD x := nr rfl
@[go_sem] theorem conD_off (x : Es.Contract) : mkv true 7 (conC x) = conD x := nr rfl
def staC (x : Es.State) : Nat → D
  | 0 => .v (.int .i64 x.day)
  | 1 => slD 1 intC x.holders
  | 2 => slD 1 booC x.used
  | 3 => slD 5 mrkC x.marks
  | _ => .any
@[go_sem] theorem staC_0 (x : Es.State) : staC x 0 = .v (.int .i64 x.day) := nr rfl
@[go_sem] theorem staC_1 (x : Es.State) : staC x 1 = slD 1 intC x.holders := nr rfl
@[go_sem] theorem staC_2 (x : Es.State) : staC x 2 = slD 1 booC x.used := nr rfl
@[go_sem] theorem staC_3 (x : Es.State) : staC x 3 = slD 5 mrkC x.marks := nr rfl
@[go_sem] theorem staD_load (x : Es.State) : mkv true 4 (offRow (staC x) 0) = staD x := nr rfl
@[go_sem] theorem staD_off (x : Es.State) : mkv true 4 (staC x) = staD x := nr rfl
theorem pu_conC (x : Es.Contract) (j : Nat) : Pu (conC x j) := by
  unfold conC; split <;> first
    | exact .v _
    | exact .any
    | exact pu_slD pu_intC _
    | exact pu_slD pu_untC _
    | exact pu_slD pu_actC _
    | exact pu_slD pu_clsC _
theorem pu_staC (x : Es.State) (j : Nat) : Pu (staC x j) := by
  unfold staC; split <;> first
    | exact .v _
    | exact .any
    | exact pu_slD pu_intC _
    | exact pu_slD pu_booC _
    | exact pu_slD pu_mrkC _
theorem pu_condD (x : Es.Cond) : Pu (condD x) := Pu_agg ⟨.v _, .v _, trivial⟩
theorem pu_ratD (x : Es.Ratio) : Pu (ratD x) := Pu_agg ⟨.v _, .v _, trivial⟩
theorem pu_actD (x : Es.ActT) : Pu (actD x) := Pu_agg ⟨.v _, .v _, .v _, .v _, .v _, .v _, .v _, trivial⟩
theorem pu_mrkD (x : Es.Mark) : Pu (mrkD x) := Pu_agg ⟨.v _, .v _, .v _, .v _, .v _, trivial⟩
theorem pu_clsD (x : Es.Clause) : Pu (clsD x) := Pu_agg ⟨.v _, .v _, .v _, .v _, pu_slD pu_condC _, .v _, .v _, .v _, .v _, .v _, .v _, .v _, .v _, .v _, .v _, .v _, trivial⟩
theorem pu_conD (x : Es.Contract) : Pu (conD x) := Pu_agg ⟨.v _, pu_slD pu_intC _, pu_slD pu_untC _, pu_slD pu_actC _, pu_slD pu_clsC _, .v _, pu_slD pu_intC _, trivial⟩
theorem pu_staD (x : Es.State) : Pu (staD x) := Pu_agg ⟨.v _, pu_slD pu_intC _, pu_slD pu_booC _, pu_slD pu_mrkC _, trivial⟩


theorem St_set_self (o : St) (f i : Nat) (B : Option SObj) : St.set o f i B f i = B := by simp [St.set]
theorem fz_ms {α : Type} [Inhabited α] {s : S} {f i k n : Nat} {ty : TypeId} {cell : Nat → Nat → D} {g : α → Nat → D} {l : List α} (ho : s.o f i = some (.blk k n ty cell)) (hn : n = l.length) (hg : ∀ x j, Pu (g x j))
    (hc : ∀ r c, r < l.length → c < k → cell r c = g (l.getD r default) c) : Fz s (.ms f i k 0 n) (slD k g l) := by
  subst hn
  refine .ms f i k 0 _ _ ty cell _ ho (by omega) fun r c hr hc' => ?_
  rw [Nat.zero_add, hc r c hr hc']
  exact (hg _ _).fz
/-- An owned slice that holds a list. -/
theorem fz_rows {α : Type} [Inhabited α] {s : S} {f i k n : Nat} {ty : TypeId} {g : α → Nat → D} {l : List α} (ho : s.o f i = some (.blk k n ty (rowsOf g l))) (hn : n = l.length) (hg : ∀ x j, Pu (g x j)) : Fz s (.ms f i k 0 n) (slD k g l) :=
  fz_ms ho hn hg fun _ _ _ _ => rfl

/-- A variable that holds a row. -/
theorem fz_box {s : S} {f i k n : Nat} {ty : TypeId} {cs : List D} {row : Nat → D} (ho : s.o f i = some (.blk k n ty (rowOf cs))) (hn : 0 < n) (h : ∀ j, j < k → cs.getD j .any = row j ∧ Pu (row j)) : Fz s (.mp f i k 0 0) (.rp k row 0) := by
  refine .mp f i k 0 0 n ty _ row ho hn fun j hj => ?_
  have := h j hj
  rw [show rowOf cs 0 j = cs.getD j .any from rfl, this.1]
  exact this.2.fz
theorem fz_con {s : S} {f i n : Nat} {ty : TypeId} {x : Es.Contract} (ho : s.o f i = some (.blk 7 n ty (rowOf [.v (.int .i64 x.parties), slD 1 intC x.holders, slD 5 untC x.units, slD 7 actC x.acts, slD 16 clsC x.clauses, .v (.int .i64 x.days), slD 1 intC x.off]))) (hn : 0 < n) : Fz s (.mp f i 7 0 0) (.rp 7 (conC x) 0) :=
  fz_box ho hn fun j hj => ⟨by
    have : j = 0 ∨ j = 1 ∨ j = 2 ∨ j = 3 ∨ j = 4 ∨ j = 5 ∨ j = 6 := by omega
    rcases this with rfl | rfl | rfl | rfl | rfl | rfl | rfl <;> rfl, pu_conC x j⟩
theorem fz_sta {s : S} {f i n : Nat} {ty : TypeId} {x : Es.State} (ho : s.o f i = some (.blk 4 n ty (rowOf [.v (.int .i64 x.day), slD 1 intC x.holders, slD 1 booC x.used, slD 5 mrkC x.marks]))) (hn : 0 < n) : Fz s (.mp f i 4 0 0) (.rp 4 (staC x) 0) :=
  fz_box ho hn fun j hj => ⟨by
    have : j = 0 ∨ j = 1 ∨ j = 2 ∨ j = 3 := by omega
    rcases this with rfl | rfl | rfl | rfl <;> rfl, pu_staC x j⟩
theorem pu_rp {k : Nat} {row : Nat → D} {off : Nat} (h : ∀ j, Pu (row j)) : Pu (.rp k row off) := .rp k row off fun j _ => h j
theorem pu_untD (x : Es.Unt) : Pu (untD x) := Pu_agg ⟨.v _, .v _, .v _, .v _, .v _, trivial⟩
/-- A map that says which names were seen. -/
def mapOf (l : List (List UInt8)) : List (Value × D) := l.map fun n => (.string ⟨n.toArray⟩, .v (.bool true))
theorem keq_str (m n : List UInt8) : keq (.string ⟨m.toArray⟩) (.string ⟨n.toArray⟩) = true ↔ m = n := by
  show ((⟨m.toArray⟩ : ByteArray) == ⟨n.toArray⟩) = true ↔ m = n
  rw [MapKept.bytes_beq]
  exact ⟨fun hh => by simpa using congrArg (fun b => b.data.toList) hh, fun h => by rw [h]⟩
theorem mfind_mapOf (n : List UInt8) : ∀ l : List (List UInt8), (mfind (.string ⟨n.toArray⟩) (mapOf l)).getD (.v (.bool false)) = .v (.bool (l.contains n))
  | [] => rfl
  | m :: l => by
    have ih := mfind_mapOf n l
    simp only [mapOf] at ih
    simp only [mapOf, List.map_cons, mfind, List.contains_cons]
    by_cases h : m = n
    · rw [if_pos ((keq_str m n).2 h)]; simp [h]
    · rw [if_neg (fun hh => h ((keq_str m n).1 hh)), ih]
      have h2 : (n == m) = false := by simpa using Ne.symm h
      simp [h2]
theorem mapOf_keys (l : List (List UInt8)) : ∀ e ∈ mapOf l, isKeyB .string e.1 = true := by
  intro e he
  simp only [mapOf, List.mem_map] at he
  obtain ⟨n, _, rfl⟩ := he; rfl
theorem mput_mapOf (n : List UInt8) : ∀ l : List (List UInt8), l.contains n = false → mput (.string ⟨n.toArray⟩) (.v (.bool true)) (mapOf l) = mapOf (l ++ [n])
  | [], _ => rfl
  | m :: l, h => by
    simp only [List.contains_cons, Bool.or_eq_false_iff] at h
    have hne : ¬ m = n := fun hh => by subst hh; simp at h
    have := mput_mapOf n l h.2
    simp only [mapOf] at this
    simp only [mapOf, List.map_cons, mput, List.cons_append]
    rw [if_neg (fun hh => hne ((keq_str m n).1 hh)), this]
end Go.Abs
end
section
/-
  An abstract machine over the model, part 15: what a row's data read as, as abstract values in the machine's start.
-/
namespace Go.Abs
open Go

/-- The start: nothing is owned; whatever lies in memory is frozen. -/
def cfg0 (W : World) : Cfg := ⟨fun b => b < W.heap.size, fun _ _ => none, W⟩
theorem cfg0_ok (W : World) : (cfg0 W).Ok S0 :=
  ⟨fun _ h => h, fun _ _ _ _ h => (by cases h), fun _ _ _ => rfl, fun _ _ _ h => (by cases h), fun _ _ _ _ _ _ _ _ _ h => (by cases h)⟩

/-- A row of cells, cell for cell. -/
def RowRep (W : World) (row : Nat → D) (k : Nat) (cs : List Value) : Prop :=
  cs.length = k ∧ ∀ j, j < k → (cs.getD j undef).oneCell' = true ∧ (cfg0 W).Rep (row j) (cs.getD j undef)

theorem RowRep.at {W : World} {row : Nat → D} {n off : Nat} {cs : List Value} (h : RowRep W row n ((cs.drop off).take n)) {j i : Nat} (hj : j < n) (hi : i = off + j) :
    (cs.getD i undef).oneCell' = true ∧ (cfg0 W).Rep (row j) (cs.getD i undef) := by
  have := h.2 j hj
  have e : ((cs.drop off).take n).getD j undef = cs.getD i undef := by
    subst hi
    simp only [List.getD_eq_getElem?_getD, List.getElem?_take, hj, if_true, List.getElem?_drop]
  rwa [e] at this

section
variable {H : Type} {enc : TypeId × Value → H} {P : Program} {W : World} {spare : Nat → Bool} {held : Bool} {fuel : Nat} {t e : TypeId} {cs : List Value} {x : DataW H × List MemPlace}
abbrev Treads (enc : TypeId × Value → H) (P : Program) (W : World) (spare : Nat → Bool) (held : Bool) (fuel : Nat) (t : TypeId) (cs : List Value) (x : DataW H × List MemPlace) : Prop := DataW.trod enc P W 0 spare held fuel t cs = some x
theorem rd_int {k : IntKind} (ht : P.underlying t = some (.int k)) (h : Treads enc P W spare held fuel t cs x) : ∃ n : Int, (Lit.int k n).wf = true ∧ RowRep W (fun _ => .v (.int k n)) 1 cs := by
  obtain ⟨n, rfl, _, hw⟩ := DataW.trod_int ht h
  exact ⟨n, hw, rfl, fun j hj => (by obtain rfl : j = 0 := (by omega); exact ⟨rfl, .v _⟩)⟩
theorem rd_bool (ht : P.underlying t = some .bool) (h : Treads enc P W spare held fuel t cs x) : ∃ b : Bool, RowRep W (fun _ => .v (.bool b)) 1 cs := by
  obtain ⟨n, rfl, _⟩ := DataW.trod_bool ht h
  exact ⟨n, rfl, fun j hj => (by obtain rfl : j = 0 := (by omega); exact ⟨rfl, .v _⟩)⟩
theorem rd_string (ht : P.underlying t = some .string) (h : Treads enc P W spare held fuel t cs x) : ∃ l : List UInt8, l.length ≤ maxLen ∧ RowRep W (fun _ => .v (.string ⟨l.toArray⟩)) 1 cs := by
  obtain ⟨s, rfl, _, hs⟩ := DataW.trod_string ht h
  refine ⟨s.data.toList, by simpa using hs, rfl, fun j hj => ?_⟩
  obtain rfl : j = 0 := by omega
  exact ⟨rfl, .v _⟩
theorem choose_list {α : Type} [Inhabited α] {p : Nat → α → Prop} : ∀ n : Nat, (∀ i, i < n → ∃ a, p i a) → ∃ l : List α, l.length = n ∧ ∀ i, i < n → p i (l.getD i default)
  | 0, _ => ⟨[], rfl, fun i h => by omega⟩
  | n + 1, h => by
    obtain ⟨l, h1, h2⟩ := choose_list n fun i hi => h i (by omega)
    obtain ⟨a, ha⟩ := h n (by omega)
    refine ⟨l ++ [a], by simp [h1], fun i hi => ?_⟩
    by_cases hin : i < n
    · have : (l ++ [a]).getD i default = l.getD i default := by simp [List.getD, List.getElem?_append, h1, hin]
      rw [this]; exact h2 i hin
    · obtain rfl : i = n := by omega
      have : (l ++ [a]).getD i default = a := by simp [List.getD, List.getElem?_append, h1]
      rw [this]; exact ha
theorem cell_lt {W : World} {a : Addr} {v : Value} (h : W.cell? a = some v) : a.block < W.heap.size ∧ a.spot = none := by
  unfold World.cell? at h
  split at h
  · rename_i hb
    split at h
    · cases h
    · rename_i hs
      exact ⟨(Array.getElem?_eq_some_iff.1 hb).1, by simpa using hs⟩
  · cases h
theorem rd_slice {α : Type} [Inhabited α] {k : Nat} {f : α → Nat → D} (ht : P.underlying t = some (.slice e)) (hC : P.cellsOf e = k) (hk : 0 < k)
    (he : ∀ (fuel : Nat) (cs : List Value) (x : DataW H × List MemPlace), Treads enc P W spare held fuel e cs x → ∃ a : α, RowRep W (f a) k cs) (h : Treads enc P W spare held fuel t cs x) :
    ∃ l : List α, l.length ≤ maxLen ∧ RowRep W (fun _ => slD k f l) 1 cs := by
  have one : ∀ (l : List α) (v : Value), l.length ≤ maxLen → v.oneCell' = true → (cfg0 W).Rep (slD k f l) v → ∃ l : List α, l.length ≤ maxLen ∧ RowRep W (fun _ => slD k f l) 1 [v] := fun l v h1 h2 h3 =>
    ⟨l, h1, rfl, fun j hj => (by obtain rfl : j = 0 := (by omega); exact ⟨h2, h3⟩)⟩
  rcases DataW.trod_slice ht h with ⟨rfl, _⟩ | ⟨a, len, cap, elems, rest, n, _, rfl, _, _, hlc, hcap, hl, hel, _⟩
  · exact one [] _ (Nat.zero_le _) rfl (.slnil _ _)
  · by_cases h0 : len = 0
    · subst h0; exact one [] _ (Nat.zero_le _) rfl (.sl0 _ _ _ _)
    · have hch : ∀ i, i < len → ∃ b : α, ∀ j, j < k → ∃ v, W.cell? ((a.add (i * k)).add j) = some v ∧ v.oneCell' = true ∧ (cfg0 W).Rep (f b j) v := by
        intro i hi
        have h1 := hel i hi
        rw [List.getElem?_eq_getElem (by omega), Option.bind_eq_some_iff] at h1
        obtain ⟨cs', hc, ht'⟩ := h1
        rw [hC] at hc
        obtain ⟨b, hb⟩ := he _ _ _ ht'
        obtain ⟨_, hcl, hat⟩ := World.cells?_some hc
        refine ⟨b, fun j hj => ?_⟩
        have h2 := hat j hj
        have h3 := hb.2 j hj
        rw [List.getElem?_eq_getElem (by omega)] at h2
        refine ⟨cs'[j]'(by omega), h2, ?_⟩
        simpa [List.getD, List.getElem?_eq_getElem (show j < cs'.length by omega)] using h3
      obtain ⟨l, hll, hlg⟩ := choose_list len hch
      obtain ⟨v0, hv0, _⟩ := hlg 0 (by omega) 0 hk
      obtain ⟨ab, ao, asp⟩ := a
      have hz : ((⟨ab, ao, asp⟩ : Addr).add (0 * k)).add 0 = ⟨ab, ao, asp⟩ := by simp [Addr.add]
      rw [hz] at hv0
      obtain ⟨hblk, hspot⟩ := cell_lt hv0
      simp only at hblk hspot
      subst hspot
      subst hll
      refine one l _ (by omega) rfl (.sl k l.length (rowsOf f l) ab ao cap (fun i j => (W.cell? ⟨ab, ao + (i * k + j), none⟩).getD undef) hblk hlc ?_ ?_ ?_)
      all_goals
        intro i j hi hj
        obtain ⟨v, hv, h1, h2⟩ := hlg i hi j hj
        rw [addr_add, addr_add, Nat.add_assoc] at hv
      · show W.cell? ⟨ab, ao + (i * k + j), none⟩ = some ((W.cell? ⟨ab, ao + (i * k + j), none⟩).getD undef)
        rw [hv]; rfl
      · rw [hv]; exact h1
      · show (cfg0 W).Rep _ ((W.cell? ⟨ab, ao + (i * k + j), none⟩).getD undef)
        rw [hv]; exact h2
/-- The fields of a struct. -/
theorem rd_struct {fs : Array Field} (ht : P.underlying t = some (.struct fs)) (h : Treads enc P W spare held fuel t cs x) :
    cs.length = P.cellsOf t ∧ ∃ n, ∀ (i : Nat) (f : Field), fs[i]? = some f → ∃ y, Treads enc P W spare held n f.type ((cs.drop f.offset).take (P.cellsOf f.type)) y := by
  obtain ⟨xs, n, _, _, hl, hx, hf⟩ := DataW.trod_struct ht h
  refine ⟨hl, n, fun i f hi => ?_⟩
  have h1 := hf i f hi
  have hlt : i < fs.size := (Array.getElem?_eq_some_iff.1 hi).1
  rw [List.getElem?_eq_getElem (by omega)] at h1
  exact ⟨_, h1⟩
end
/-- A row read as one value. -/
theorem agg_of_row {W : World} {row : Nat → D} {ds : List D} {xs : List Value} (h : RowRep W row ds.length xs) (hd : ∀ (i : Nat) (d : D), ds[i]? = some d → d = row i) : (cfg0 W).Rep (.agg ds) (.agg xs.toArray) :=
  .agg ds xs h.1 (fun x hx => by
    obtain ⟨i, hi, rfl⟩ := List.mem_iff_getElem.1 hx
    have := (h.2 i (by rw [← h.1]; exact hi)).1
    simpa [List.getD, List.getElem?_eq_getElem hi] using this) fun i d hi => by
    rw [hd i d hi]
    have hlt : i < ds.length := by
      rcases Nat.lt_or_ge i ds.length with hh | hh
      · exact hh
      · rw [List.getElem?_eq_none hh] at hi; cases hi
    exact (h.2 i hlt).2
/-- A global variable's cells. -/
theorem rp_of_row {W : World} {row : Nat → D} {k g : Nat} {xs : List Value} (h : RowRep W row k xs) (hk : 0 < k) (hc : ∀ i, W.cell? ⟨g, i, none⟩ = xs[i]?) : (cfg0 W).Rep (.rp k row 0) (.pointer (some ⟨g, 0, none⟩)) := by
  have hget : ∀ j, j < k → W.cell? ⟨g, j, none⟩ = some (xs.getD j undef) := fun j hj => by
    rw [hc j, List.getElem?_eq_getElem (by rw [h.1]; exact hj)]
    simp [List.getD, List.getElem?_eq_getElem (show j < xs.length by rw [h.1]; exact hj)]
  refine .rp k row 0 g 0 (fun j => xs.getD j undef) (cell_lt (hget 0 hk)).1 (fun j hj => ?_) (fun j hj => (h.2 j hj).1) (fun j hj => (h.2 j hj).2)
  rw [Nat.zero_add]; exact hget j hj
/-- What a pure function's contract says of a call in the start. -/
theorem calls_of_apure {M : Ctx} {f : FuncId} {args : List D} {d : D} (h : APure M f args d) {W : World} {vals : List Value} (hlen : vals.length = args.length) (hrep : ∀ i d, args[i]? = some d → (cfg0 W).Rep d (vals.getD i undef))
    (hglob : ∀ g d, M.G g = some d → (cfg0 W).Rep d (.pointer (some ⟨g, 0, none⟩))) :
    Calls M.P f vals.toArray W fun e W' => ∃ (c' : Cfg) (v : Value), e = .returned v ∧ c'.W = W' ∧ RowKit.Below W.heap.size W W' ∧ c'.Rep d v := by
  have := h { M with X := fun _ _ => False } rfl rfl S0 (fun d' _ => d' = d) rfl (cfg0 W) vals (cfg0_ok W) ⟨hglob, fun _ _ h => h.elim⟩ hlen hrep
  refine this.mono ?_
  rintro e W' ⟨c', v, d', s', rfl, rfl, hx, _, hr, rfl⟩
  exact ⟨c', v, rfl, rfl, ⟨hx.os, hx.tape, hx.output, hx.size, fun k hk => hx.keep k hk⟩, hr⟩
end Go.Abs
end
