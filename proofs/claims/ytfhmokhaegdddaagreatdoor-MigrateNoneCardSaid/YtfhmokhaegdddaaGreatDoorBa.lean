/-
  Parts of an abstract machine over the model, of the program's data and of what its functions compute: the texts Abs AbsB AbsC AbsD AbsE AbsF AbsFa AbsM AbsG AbsH AbsI, merged.
-/
import Derived.OrdersIn
import Derived.RangeFuncNested
import Derived.CallsIn
import Derived.Laws.World
import Derived.Laws.Sem
import Derived.Laws.CopyRow
import Derived.Laws.Cells
import Derived.KernelRfl
import Derived.Laws.Slices
import Derived.Laws.StructEq
import Derived.ChangeKeysEq
import Derived.Laws.AppendOwn
import Derived.Laws.MakeOwn
import Derived.Great.BuildSlice
import Derived.MapKept
import Derived.RangeFuncLeaves
set_option linter.unusedSimpArgs false
set_option linter.unusedVariables false
section
/-
  An abstract machine over the model, part 1: abstract values, what they stand for in a world, configurations, and how a later configuration keeps an earlier one's readings. It names no program.
-/
namespace Go.Abs
open Go

/-- Abstract values. 'sl' and 'rp': a slice and a pointer into memory that nobody writes any more. 'mp' and 'ms': a pointer and a slice into an owned object, named by two numbers. -/
inductive D : Type
  | any
  | v (x : Value)
  | agg (cs : List D)
  | tup (cs : List D)
  | sl (k n : Nat) (row : Nat → Nat → D)
  | rp (k : Nat) (row : Nat → D) (off : Nat)
  | mp (f i k r c : Nat)
  | ms (f i k lo len : Nat)
  | fn (f : Fn) (caps : List D)
  | ifc (t : TypeId) (x : D)
  | mm (f i : Nat)
instance : Inhabited D := ⟨.any⟩

/-- An owned object: a matrix of cells, or a map. -/
inductive SObj : Type
  | blk (k n : Nat) (ty : TypeId) (cell : Nat → Nat → D)
  | mapo (es : List (Value × D))
  | raw (b : Nat) (o : Obj)

/-- The store: which owned objects are alive. -/
abbrev St := Nat → Nat → Option SObj

/-- Where the owned objects lie: the block's number, and how many rows it has room for. -/
abbrev Pl := Nat → Nat → Option (Nat × Nat)

structure Cfg where
  K : Nat → Prop
  β : Pl
  W : World

/-- The store, and the next name for an owned object. -/
structure S where
  o : St
  nx : Nat

inductive Rep (K : Nat → Prop) (β : Pl) (W : World) : D → Value → Prop
  | any (x : Value) : Rep K β W .any x
  | v (x : Value) : Rep K β W (.v x) x
  | agg (cs : List D) (xs : List Value) (hl : xs.length = cs.length) (ho : ∀ x ∈ xs, x.oneCell' = true) (h : ∀ i d, cs[i]? = some d → Rep K β W d (xs.getD i undef)) : Rep K β W (.agg cs) (.agg xs.toArray)
  | tup (cs : List D) (xs : List Value) (hl : xs.length = cs.length) (h : ∀ i d, cs[i]? = some d → Rep K β W d (xs.getD i undef)) : Rep K β W (.tup cs) (.tuple xs.toArray)
  | sl (k n : Nat) (row : Nat → Nat → D) (b off cap : Nat) (g : Nat → Nat → Value) (hb : K b) (hc : n ≤ cap)
      (hg : ∀ i j, i < n → j < k → W.cell? ⟨b, off + (i * k + j), none⟩ = some (g i j)) (ho : ∀ i j, i < n → j < k → (g i j).oneCell' = true) (hr : ∀ i j, i < n → j < k → Rep K β W (row i j) (g i j)) :
      Rep K β W (.sl k n row) (.slice (some ⟨b, off, none⟩) n cap)
  | slnil (k : Nat) (row : Nat → Nat → D) : Rep K β W (.sl k 0 row) (.slice none 0 0)
  | sl0 (k : Nat) (row : Nat → Nat → D) (a : Addr) (cap : Nat) : Rep K β W (.sl k 0 row) (.slice (some a) 0 cap)
  | rp (k : Nat) (row : Nat → D) (off b o : Nat) (g : Nat → Value) (hb : K b)
      (hg : ∀ j, j < k → W.cell? ⟨b, o + j, none⟩ = some (g j)) (ho : ∀ j, j < k → (g j).oneCell' = true) (hr : ∀ j, j < k → Rep K β W (row j) (g j)) :
      Rep K β W (.rp k row off) (.pointer (some ⟨b, o + off, none⟩))
  | mp (f i k r c b cp : Nat) (hβ : β f i = some (b, cp)) : Rep K β W (.mp f i k r c) (.pointer (some ⟨b, r * k + c, none⟩))
  | ms (f i k lo len b cp cap : Nat) (hβ : β f i = some (b, cp)) (hc : len ≤ cap) (hcp : lo + cap ≤ cp) :
      Rep K β W (.ms f i k lo len) (.slice (some ⟨b, lo * k, none⟩) len cap)
  | msnil (f i k lo : Nat) : Rep K β W (.ms f i k lo 0) (.slice none 0 0)
  | fn (f : Fn) (cs : List D) (xs : List Value) (hl : xs.length = cs.length) (h : ∀ i d, cs[i]? = some d → Rep K β W d (xs.getD i undef)) :
      Rep K β W (.fn f cs) (.func f #[] xs.toArray)
  | ifc (t : TypeId) (d : D) (x : Value) (h : Rep K β W d x) : Rep K β W (.ifc t d) (.iface t x)
  | mm (f i b cp : Nat) (hβ : β f i = some (b, cp)) : Rep K β W (.mm f i) (.map (some b))

/-- How a configuration is kept by a later one. -/
structure Ext (c c' : Cfg) : Prop where
  K : ∀ b, c.K b → c'.K b
  β : ∀ f i x, c.β f i = some x → c'.β f i = some x
  size : c.W.heap.size ≤ c'.W.heap.size
  os : c'.W.os = c.W.os
  tape : c'.W.tape = c.W.tape
  output : c'.W.output = c.W.output
  keep : ∀ b, c.K b → c'.W.heap[b]? = c.W.heap[b]?
  frame : ∀ b, b < c.W.heap.size → (∀ f i cp, c.β f i ≠ some (b, cp)) → c'.W.heap[b]? = c.W.heap[b]?
  newK : ∀ b, c'.K b → c.K b ∨ (∃ f i cp, c.β f i = some (b, cp)) ∨ c.W.heap.size ≤ b
  newβ : ∀ f i (b cp : Nat), c'.β f i = some (b, cp) → (∃ f' i' cp', c.β f' i' = some (b, cp')) ∨ c.W.heap.size ≤ b

theorem cell_of_heap {w w' : World} {b o : Nat} {x : Value} (h : w'.heap[b]? = w.heap[b]?) (hc : w.cell? ⟨b, o, none⟩ = some x) : w'.cell? ⟨b, o, none⟩ = some x := by
  unfold World.cell? at *
  rw [h]; exact hc

theorem Rep.mono {K K' : Nat → Prop} {β β' : Pl} {W W' : World} (hK : ∀ b, K b → K' b) (hβ : ∀ f i x, β f i = some x → β' f i = some x)
    (hW : ∀ b, K b → W'.heap[b]? = W.heap[b]?) {d : D} {x : Value} (h : Rep K β W d x) : Rep K' β' W' d x := by
  induction h with
  | any x => exact .any x
  | v x => exact .v x
  | agg cs xs hl ho _ ih => exact .agg cs xs hl ho ih
  | tup cs xs hl _ ih => exact .tup cs xs hl ih
  | sl k n row b off cap g hb hc hg ho _ ih => exact .sl k n row b off cap g (hK b hb) hc (fun i j hi hj => cell_of_heap (hW b hb) (hg i j hi hj)) ho ih
  | slnil k row => exact .slnil k row
  | sl0 k row a cap => exact .sl0 k row a cap
  | rp k row off b o g hb hg ho _ ih => exact .rp k row off b o g (hK b hb) (fun j hj => cell_of_heap (hW b hb) (hg j hj)) ho ih
  | mp f i k r c b cp h => exact .mp f i k r c b cp (hβ _ _ _ h)
  | ms f i k lo len b cp cap h hc hcp => exact .ms f i k lo len b cp cap (hβ _ _ _ h) hc hcp
  | msnil f i k lo => exact .msnil f i k lo
  | fn f cs xs hl _ ih => exact .fn f cs xs hl ih
  | ifc t d x _ ih => exact .ifc t d x ih
  | mm f i b cp h => exact .mm f i b cp (hβ _ _ _ h)

abbrev Cfg.Rep (c : Cfg) (d : D) (x : Value) : Prop := Abs.Rep c.K c.β c.W d x

theorem Ext.rep {c c' : Cfg} (h : Ext c c') {d : D} {x : Value} (hr : c.Rep d x) : c'.Rep d x := Rep.mono h.K h.β h.keep hr

theorem Ext.refl (c : Cfg) : Ext c c :=
  ⟨fun _ h => h, fun _ _ _ h => h, Nat.le_refl _, rfl, rfl, rfl, fun _ _ => rfl, fun _ _ _ => rfl, fun _ h => .inl h, fun f i _ cp h => .inl ⟨f, i, cp, h⟩⟩

/-- What an owned object asks of the world. -/
def ObjAt (K : Nat → Prop) (β : Pl) (W : World) (b cp : Nat) : SObj → Prop
  | .blk k n ty cell => n ≤ cp ∧ ∃ arr : Array Value, W.heap[b]? = some (.cells arr ty (0, 0)) ∧ arr.size = cp * k ∧
      ∀ r c, r < n → c < k → (arr.getD (r * k + c) undef).oneCell' = true ∧ Abs.Rep K β W (cell r c) (arr.getD (r * k + c) undef)
  | .mapo es => ∃ (es' : Array MapEntry) (clock : Nat), W.heap[b]? = some (.map es' clock) ∧ es'.size = es.length ∧
      ∀ (i : Nat) (e : Value × D), es[i]? = some e → ∃ e' : MapEntry, es'[i]? = some e' ∧ e'.key = e.1 ∧ Abs.Rep K β W e.2 e'.val
  | .raw b' o => b = b' ∧ W.heap[b]? = some o

def SObj.empty : SObj → Prop
  | .blk _ n _ _ => n = 0
  | .mapo _ => False
  | .raw _ _ => False

structure Cfg.Ok (c : Cfg) (s : S) : Prop where
  kb : ∀ b, c.K b → b < c.W.heap.size
  βb : ∀ f i b cp, c.β f i = some (b, cp) → b < c.W.heap.size
  fresh : ∀ f i, s.nx ≤ f → c.β f i = none
  obj : ∀ f i B, s.o f i = some B → f < s.nx ∧ ((∃ b cp, c.β f i = some (b, cp) ∧ ¬ c.K b ∧ ObjAt c.K c.β c.W b cp B) ∨ (c.β f i = none ∧ B.empty))
  inj : ∀ f i f' i' B B' b cp cp', s.o f i = some B → s.o f' i' = some B' → c.β f i = some (b, cp) → c.β f' i' = some (b, cp') → f = f' ∧ i = i'

theorem Ext.trans {a b c : Cfg} (h : Ext a b) (k : Ext b c) : Ext a c where
  K x hx := k.K x (h.K x hx)
  β f i x hx := k.β f i x (h.β f i x hx)
  size := Nat.le_trans h.size k.size
  os := k.os.trans h.os
  tape := k.tape.trans h.tape
  output := k.output.trans h.output
  keep x hx := (k.keep x (h.K x hx)).trans (h.keep x hx)
  frame x hx hn := by
    refine (k.frame x (Nat.lt_of_lt_of_le hx h.size) ?_).trans (h.frame x hx hn)
    intro f i cp he
    rcases h.newβ f i x cp he with ⟨f', i', cp', h'⟩ | h'
    · exact hn _ _ _ h'
    · omega
  newK x hx := by
    rcases k.newK x hx with h1 | ⟨f, i, cp, h1⟩ | h1
    · exact h.newK x h1
    · rcases h.newβ f i x cp h1 with ⟨f', i', cp', h'⟩ | h'
      · exact .inr (.inl ⟨f', i', cp', h'⟩)
      · exact .inr (.inr h')
    · exact .inr (.inr (Nat.le_trans h.size h1))
  newβ f i x cp hx := by
    rcases k.newβ f i x cp hx with ⟨f', i', cp', h1⟩ | h1
    · exact h.newβ f' i' x cp' h1
    · exact .inr (Nat.le_trans h.size h1)

theorem ObjAt.mono {K K' : Nat → Prop} {β β' : Pl} {W W' : World} (hK : ∀ b, K b → K' b) (hβ : ∀ f i x, β f i = some x → β' f i = some x)
    (hW : ∀ b, K b → W'.heap[b]? = W.heap[b]?) {b cp : Nat} (hb : W'.heap[b]? = W.heap[b]?) {B : SObj} (h : ObjAt K β W b cp B) : ObjAt K' β' W' b cp B := by
  cases B with
  | blk k n ty cell =>
    obtain ⟨h1, arr, h2, h3, h4⟩ := h
    exact ⟨h1, arr, hb.trans h2, h3, fun r c hr hc => ⟨(h4 r c hr hc).1, (h4 r c hr hc).2.mono hK hβ hW⟩⟩
  | mapo es =>
    obtain ⟨es', cl, h2, h3, h4⟩ := h
    refine ⟨es', cl, hb.trans h2, h3, fun i e hi => ?_⟩
    obtain ⟨e', g1, g2, g3⟩ := h4 i e hi
    exact ⟨e', g1, g2, g3.mono hK hβ hW⟩
  | raw b' o => exact ⟨h.1, hb.trans h.2⟩

/-- One name more. -/
def Pl.add (β : Pl) (f b cp : Nat) : Pl := fun f' i' => if f' = f ∧ i' = 0 then some (b, cp) else β f' i'
def St.set (o : St) (f i : Nat) (B : Option SObj) : St := fun f' i' => if f' = f ∧ i' = i then B else o f' i'

theorem heap_push_lt (w : World) (o : Obj) {b : Nat} (h : b < w.heap.size) : (w.alloc o).heap[b]? = w.heap[b]? := by
  show (w.heap.push o)[b]? = _
  rw [Array.getElem?_push, if_neg (by omega)]
theorem heap_push_new (w : World) (o : Obj) : (w.alloc o).heap[w.heap.size]? = some o := by
  show (w.heap.push o)[w.heap.size]? = _
  simp

/-- The configuration behind a new block. -/
def Cfg.push (c : Cfg) (s : S) (o : Obj) (cp : Nat) : Cfg := { K := c.K, β := Pl.add c.β s.nx c.W.heap.size cp, W := c.W.alloc o }
def S.push (s : S) (B : SObj) : S := ⟨St.set s.o s.nx 0 (some B), s.nx + 1⟩

theorem Cfg.Ok.β_lt {c : Cfg} {s : S} (h : c.Ok s) {f i : Nat} {x : Nat × Nat} (hx : c.β f i = some x) : f < s.nx := by
  rcases Nat.lt_or_ge f s.nx with hl | hg
  · exact hl
  · rw [h.fresh f i hg] at hx; cases hx

theorem Cfg.Ok.st_lt {c : Cfg} {s : S} (h : c.Ok s) {f i : Nat} {B : SObj} (hB : s.o f i = some B) : f < s.nx := (h.obj f i B hB).1

theorem Cfg.Ok.at_ {c : Cfg} {s : S} (h : c.Ok s) {f i : Nat} {B : SObj} (hB : s.o f i = some B) {b cp : Nat} (hβ : c.β f i = some (b, cp)) : ¬ c.K b ∧ ObjAt c.K c.β c.W b cp B := by
  rcases (h.obj f i B hB).2 with ⟨b', cp', h1, h2⟩ | ⟨h1, _⟩
  · rw [hβ] at h1; cases h1; exact h2
  · rw [hβ] at h1; cases h1

theorem push_ext {c : Cfg} {s : S} (h : c.Ok s) (o : Obj) (cp : Nat) : Ext c (c.push s o cp) where
  K _ hb := hb
  β f i x hx := by
    have := h.β_lt hx
    show (if f = s.nx ∧ i = 0 then _ else c.β f i) = some x
    rw [if_neg (by omega)]; exact hx
  size := by show c.W.heap.size ≤ (c.W.alloc o).heap.size; simp
  os := rfl
  tape := rfl
  output := rfl
  keep b hb := heap_push_lt _ _ (h.kb b hb)
  frame b hb _ := heap_push_lt _ _ hb
  newK _ hb := .inl hb
  newβ f i b cp' hb := by
    change (if f = s.nx ∧ i = 0 then some (c.W.heap.size, cp) else c.β f i) = some (b, cp') at hb
    split at hb
    · cases hb; exact .inr (Nat.le_refl _)
    · exact .inl ⟨f, i, cp', hb⟩

theorem push_ok {c : Cfg} {s : S} (h : c.Ok s) (o : Obj) (cp : Nat) (B : SObj) (hB : ObjAt c.K c.β (c.W.alloc o) c.W.heap.size cp B) : (c.push s o cp).Ok (s.push B) where
  kb b hb := by have := h.kb b hb; show b < (c.W.alloc o).heap.size; simp; omega
  βb f i b cp' hb := by
    change (if f = s.nx ∧ i = 0 then some (c.W.heap.size, cp) else c.β f i) = some (b, cp') at hb
    show b < (c.W.alloc o).heap.size
    rw [World.size_alloc]
    split at hb
    · cases hb; omega
    · have := h.βb f i b cp' hb; omega
  fresh f i hf := by
    change s.nx + 1 ≤ f at hf
    show (if f = s.nx ∧ i = 0 then _ else c.β f i) = none
    rw [if_neg (by omega)]; exact h.fresh f i (by omega)
  obj f i B' hB' := by
    have hx := push_ext h o cp
    change (if f = s.nx ∧ i = 0 then some B else s.o f i) = some B' at hB'
    split at hB'
    · rename_i hfi
      cases hB'
      refine ⟨by show f < s.nx + 1; omega, .inl ⟨c.W.heap.size, cp, ?_, fun hk => absurd (h.kb _ hk) (by omega), hB.mono (fun _ h => h) hx.β (fun b _ => rfl) rfl⟩⟩
      show (if f = s.nx ∧ i = 0 then _ else _) = _
      rw [if_pos hfi]
    · rename_i hfi
      obtain ⟨hlt, ho⟩ := h.obj f i B' hB'
      refine ⟨by show f < s.nx + 1; omega, ?_⟩
      rcases ho with ⟨b, cp', hβ, hk, ho⟩ | ⟨hβ, he⟩
      · exact .inl ⟨b, cp', hx.β _ _ _ hβ, hk, ho.mono (fun _ h => h) hx.β hx.keep (heap_push_lt _ _ (h.βb f i b cp' hβ))⟩
      · refine .inr ⟨?_, he⟩
        show (if f = s.nx ∧ i = 0 then _ else c.β f i) = none
        rw [if_neg hfi]; exact hβ
  inj f i f' i' B1 B2 b cp1 cp2 h1 h2 h3 h4 := by
    change (if f = s.nx ∧ i = 0 then some B else s.o f i) = some B1 at h1
    change (if f' = s.nx ∧ i' = 0 then some B else s.o f' i') = some B2 at h2
    change (if f = s.nx ∧ i = 0 then some (c.W.heap.size, cp) else c.β f i) = some (b, cp1) at h3
    change (if f' = s.nx ∧ i' = 0 then some (c.W.heap.size, cp) else c.β f' i') = some (b, cp2) at h4
    by_cases ha : f = s.nx ∧ i = 0 <;> by_cases hb : f' = s.nx ∧ i' = 0
    · omega
    · rw [if_pos ha] at h3; rw [if_neg hb] at h4
      have := h.βb _ _ _ _ h4; cases h3; omega
    · rw [if_neg ha] at h3; rw [if_pos hb] at h4
      have := h.βb _ _ _ _ h3; cases h4; omega
    · rw [if_neg ha] at h1 h3; rw [if_neg hb] at h2 h4
      exact h.inj _ _ _ _ _ _ _ _ _ h1 h2 h3 h4

/-- What a write to one block leaves. -/
structure Touch (W W' : World) (b : Nat) : Prop where
  size : W'.heap.size = W.heap.size
  other : ∀ b', b' ≠ b → W'.heap[b']? = W.heap[b']?
  os : W'.os = W.os
  tape : W'.tape = W.tape
  output : W'.output = W.output

def S.put (s : S) (f i : Nat) (B : SObj) : S := ⟨St.set s.o f i (some B), s.nx⟩

theorem touch_ext {c : Cfg} {s : S} (h : c.Ok s) {f i b cp : Nat} {B : SObj} (hB : s.o f i = some B) (hβ : c.β f i = some (b, cp)) {W' : World} (hT : Touch c.W W' b) :
    Ext c { c with W := W' } where
  K _ hb := hb
  β _ _ _ hx := hx
  size := by show c.W.heap.size ≤ W'.heap.size; rw [hT.size]; exact Nat.le_refl _
  os := hT.os
  tape := hT.tape
  output := hT.output
  keep b' hb' := by
    exact hT.other b' fun e => (h.at_ hB hβ).1 (e ▸ hb')
  frame b' hb' hn := hT.other b' fun e => hn f i cp (e ▸ hβ)
  newK _ hb := .inl hb
  newβ f i _ cp' hb := .inl ⟨f, i, cp', hb⟩

theorem touch_ok {c : Cfg} {s : S} (h : c.Ok s) {f i b cp : Nat} {B B' : SObj} (hB : s.o f i = some B) (hβ : c.β f i = some (b, cp)) {W' : World} (hT : Touch c.W W' b)
    (hO : ObjAt c.K c.β W' b cp B') : Cfg.Ok { c with W := W' } (s.put f i B') where
  kb b' hb := by show b' < W'.heap.size; rw [hT.size]; exact h.kb b' hb
  βb f i b' cp' hb := by show b' < W'.heap.size; rw [hT.size]; exact h.βb f i b' cp' hb
  fresh f i hf := h.fresh f i hf
  obj f1 i1 B1 hB1 := by
    have hx := touch_ext h hB hβ hT
    change (if f1 = f ∧ i1 = i then some B' else s.o f1 i1) = some B1 at hB1
    split at hB1
    · rename_i hfi
      obtain ⟨rfl, rfl⟩ := hfi
      cases hB1
      exact ⟨h.st_lt hB, .inl ⟨b, cp, hβ, (h.at_ hB hβ).1, hO⟩⟩
    · rename_i hfi
      obtain ⟨hlt, ho⟩ := h.obj f1 i1 B1 hB1
      refine ⟨hlt, ?_⟩
      rcases ho with ⟨b1, cp1, h1, h2, h3⟩ | ho
      · refine .inl ⟨b1, cp1, h1, h2, h3.mono (fun _ h => h) (fun _ _ _ h => h) hx.keep (hT.other b1 fun e => ?_)⟩
        subst e
        exact hfi (h.inj _ _ _ _ _ _ _ _ _ hB1 hB h1 hβ)
      · exact .inr ho
  inj f1 i1 f2 i2 B1 B2 b' cp1 cp2 h1 h2 h3 h4 := by
    have hl : ∀ f' i' B0, St.set s.o f i (some B') f' i' = some B0 → ∃ B1, s.o f' i' = some B1 := by
      intro f' i' B0 hh
      change (if f' = f ∧ i' = i then some B' else s.o f' i') = some B0 at hh
      split at hh
      · rename_i e; obtain ⟨rfl, rfl⟩ := e; exact ⟨B, hB⟩
      · exact ⟨B0, hh⟩
    obtain ⟨B3, h5⟩ := hl _ _ _ h1
    obtain ⟨B4, h6⟩ := hl _ _ _ h2
    exact h.inj _ _ _ _ _ _ _ _ _ h5 h6 h3 h4

/-- A draw. -/
theorem drew_ext (c : Cfg) : Ext c { c with W := c.W.drew } where
  K _ h := h
  β _ _ _ h := h
  size := Nat.le_refl _
  os := rfl
  tape := rfl
  output := rfl
  keep _ _ := rfl
  frame _ _ _ := rfl
  newK _ h := .inl h
  newβ f i _ cp h := .inl ⟨f, i, cp, h⟩

theorem drew_ok {c : Cfg} {s : S} (h : c.Ok s) : Cfg.Ok { c with W := c.W.drew } s where
  kb := h.kb
  βb := h.βb
  fresh := h.fresh
  obj f i B hB := by
    obtain ⟨hlt, ho⟩ := h.obj f i B hB
    refine ⟨hlt, ?_⟩
    rcases ho with ⟨b, cp, h1, h2, h3⟩ | ho
    case inr => exact .inr ho
    exact .inl ⟨b, cp, h1, h2, ObjAt.mono (K := c.K) (β := c.β) (W := c.W) (W' := c.W.drew) (fun _ h => h) (fun _ _ _ h => h) (fun _ _ => rfl) rfl h3⟩
  inj := h.inj

end Go.Abs
end
section
/-
  An abstract machine over the model, part 2: the operations on memory.
-/
namespace Go.Abs
open Go

def descAgg : TypeDesc → Bool
  | .struct _ | .array _ _ => true
  | _ => false
/-- What kind of a type it is. -/
def tKind (P : Program) (t : TypeId) : Nat :=
  match P.underlying t with
  | some (.slice _) => 1
  | some .string => 2
  | some (.map _ _) => 3
  | some (.func _ _ _) => 4
  | some .bool => 5
  | some (.pointer _) => 6
  | some (.struct _) => 7
  | some (.array _ _) => 8
  | some (.int _) => 9
  | some (.interface _) => 10
  | _ => 0
theorem tKind_slice {P : Program} {t : TypeId} (h : tKind P t = 1) : ∃ el, P.underlying t = some (.slice el) := by
  unfold tKind at h; split at h <;> first | (exact ⟨_, ‹_›⟩) | (exact absurd h (by decide))
theorem tKind_string {P : Program} {t : TypeId} (h : tKind P t = 2) : P.underlying t = some .string := by
  unfold tKind at h; split at h <;> first | assumption | (exact absurd h (by decide))
theorem tKind_map {P : Program} {t : TypeId} (h : tKind P t = 3) : ∃ k el, P.underlying t = some (.map k el) := by
  unfold tKind at h; split at h <;> first | (exact ⟨_, _, ‹_›⟩) | (exact absurd h (by decide))
theorem tKind_func {P : Program} {t : TypeId} (h : tKind P t = 4) : ∃ a b c, P.underlying t = some (.func a b c) := by
  unfold tKind at h; split at h <;> first | (exact ⟨_, _, _, ‹_›⟩) | (exact absurd h (by decide))
theorem tKind_bool {P : Program} {t : TypeId} (h : tKind P t = 5) : P.underlying t = some .bool := by
  unfold tKind at h; split at h <;> first | assumption | (exact absurd h (by decide))
theorem tKind_pointer {P : Program} {t : TypeId} (h : tKind P t = 6) : ∃ el, P.underlying t = some (.pointer el) := by
  unfold tKind at h; split at h <;> first | (exact ⟨_, ‹_›⟩) | (exact absurd h (by decide))
theorem tKind_int {P : Program} {t : TypeId} (h : tKind P t = 9) : ∃ k, P.underlying t = some (.int k) := by
  unfold tKind at h; split at h <;> first | (exact ⟨_, ‹_›⟩) | (exact absurd h (by decide))
/-- Is it a struct or an array; how many cells. -/
def tLay (P : Program) (t : TypeId) : Option (Bool × Nat) :=
  match P.underlying t, P.info? t with
  | some d, some i => some (descAgg d, i.size)
  | _, _ => none
/-- A field's first cell. -/
def tFld (P : Program) (t : TypeId) (f : Nat) : Option Nat :=
  match P.underlying t with
  | some (.struct fs) =>
    match fs[f]? with
    | some x => match P.info? x.type with
      | some i => if i.size = 0 then none else some x.offset
      | none => none
    | none => none
  | _ => none
/-- How many cells an element of a slice has. -/
def tElem (P : Program) (t : TypeId) : Option Nat :=
  match P.underlying t with
  | some (.slice el) => (P.info? el).map (·.size)
  | _ => none
def tArr (P : Program) (t : TypeId) : Option (Nat × Nat) :=
  match P.underlying t with
  | some (.array n el) => (P.info? el).map fun i => (n, i.size)
  | _ => none
def tZero (P : Program) (t : TypeId) : Option Value := (P.info? t).bind (·.zero)

def tab : Nat → Nat → (Nat → D) → List D
  | 0, _, _ => []
  | n + 1, i, f => f i :: tab n (i + 1) f

theorem tab_length (f : Nat → D) : ∀ n i, (tab n i f).length = n
  | 0, _ => rfl
  | n + 1, i => by simp [tab, tab_length f n (i + 1)]
theorem tab_get (f : Nat → D) : ∀ n i j, j < n → (tab n i f)[j]? = some (f (i + j))
  | n + 1, i, 0, _ => by simp [tab]
  | n + 1, i, j + 1, h => by
    simp only [tab, List.getElem?_cons_succ]
    rw [tab_get f n (i + 1) j (by omega)]
    congr 2; omega

def mkv (ag : Bool) (n : Nat) (f : Nat → D) : D := if ag then .agg (tab n 0 f) else f 0

def aLoad (P : Program) (t : TypeId) (p : D) (s : S) (K : D → S → Prop) : Prop :=
  match tLay P t with
  | none => False
  | some (ag, n) =>
    match p with
    | .rp k row off => (off + n ≤ k ∧ (ag = false → n = 1)) ∧ K (mkv ag n fun j => row (off + j)) s
    | .mp f i k r c =>
      match s.o f i with
      | some (.blk k' m _ cell) => (k' = k ∧ r < m ∧ c + n ≤ k ∧ (ag = false → n = 1)) ∧ K (mkv ag n fun j => cell r (c + j)) s
      | _ => False
    | _ => False

theorem run_underlying' {P : Program} {t : TypeId} {d : TypeDesc} (h : P.underlying t = some d) (w : World) : (underlying t).run P w = .ok d w := by
  simp [underlying, h]
theorem run_typeInfo' {P : Program} {t : TypeId} {i : TypeInfo} (h : P.info? t = some i) (w : World) : (typeInfo t).run P w = .ok i w := by
  simp [typeInfo, h]
theorem run_sizeOf' {P : Program} {t : TypeId} {i : TypeInfo} (h : P.info? t = some i) (w : World) : (sizeOf t).run P w = .ok i.size w := by
  simp [sizeOf, run_typeInfo' h]
theorem run_isAgg' {P : Program} {t : TypeId} {d : TypeDesc} (h : P.underlying t = some d) (w : World) : (isAgg t).run P w = .ok (descAgg d) w := by
  simp only [isAgg, Sem.run_bind, run_underlying' h, Result.andThen_ok]
  cases d <;> rfl

theorem tLay_some {P : Program} {t : TypeId} {ag : Bool} {n : Nat} (h : tLay P t = some (ag, n)) :
    ∃ d i, P.underlying t = some d ∧ P.info? t = some i ∧ descAgg d = ag ∧ i.size = n := by
  unfold tLay at h
  split at h
  · rename_i d i h1 h2
    simp only [Option.some.injEq, Prod.mk.injEq] at h
    exact ⟨d, i, h1, h2, h.1, h.2⟩
  · cases h

theorem addr_add (b o n : Nat) : (⟨b, o, none⟩ : Addr).add n = ⟨b, o + n, none⟩ := by
  unfold Addr.add; split <;> simp_all

theorem range_map_length (n : Nat) (g : Nat → Value) : ((List.range n).map g).length = n := by simp

/-- Reading a variable whose cells are known. -/
theorem run_loadVar_cells {P : Program} {t : TypeId} {ag : Bool} {n : Nat} (hl : tLay P t = some (ag, n)) (h1 : ag = false → n = 1) (w : World) (b o : Nat) (g : Nat → Value)
    (hg : ∀ j, j < n → w.cell? ⟨b, o + j, none⟩ = some (g j)) :
    (loadVar t ⟨b, o, none⟩).run P w = .ok (if ag then .agg ((List.range n).map g).toArray else g 0) w := by
  obtain ⟨d, i, hu, hi, hag, hs⟩ := tLay_some hl
  simp only [loadVar, Sem.run_bind, run_isAgg' hu, Result.andThen_ok, hag]
  cases ag with
  | true =>
    simp only [if_true, Sem.run_bind, run_sizeOf' hi, Result.andThen_ok, hs]
    rw [run_loadCells (P := P) w ⟨b, o, none⟩ n g (fun j hj => by rw [addr_add]; exact hg j hj)]
    simp
  | false =>
    have hn := h1 rfl
    have := hg 0 (by omega)
    simp at this
    simp [this]

theorem rep_mkv {K : Nat → Prop} {β : Pl} {W : World} {ag : Bool} {n : Nat} {f : Nat → D} {g : Nat → Value} (h1 : ag = false → n = 1) (ho : ∀ j, j < n → (g j).oneCell' = true)
    (hr : ∀ j, j < n → Rep K β W (f j) (g j)) : Rep K β W (mkv ag n f) (if ag then .agg ((List.range n).map g).toArray else g 0) := by
  cases ag with
  | true =>
    refine Rep.agg _ _ (by simp [tab_length]) ?_ ?_
    · intro x hx
      simp only [List.mem_map, List.mem_range] at hx
      obtain ⟨j, hj, rfl⟩ := hx
      exact ho j hj
    · intro j d hd
      have hj : j < n := by
        rcases Nat.lt_or_ge j n with h | h
        · exact h
        · rw [List.getElem?_eq_none (by rw [tab_length]; exact h)] at hd; cases hd
      rw [tab_get f n 0 j hj] at hd
      simp only [Option.some.injEq, Nat.zero_add] at hd
      subst hd
      simp only [List.getD_eq_getElem?_getD, List.getElem?_map, List.getElem?_range hj, Option.map_some, Option.getD_some]
      exact hr j hj
  | false => exact hr 0 (by have := h1 rfl; omega)

theorem arr_cell {w : World} {b : Nat} {arr : Array Value} {ty : TypeId} {fr : Nat × Nat} (h : w.heap[b]? = some (.cells arr ty fr)) {o : Nat} (ho : o < arr.size) :
    w.cell? ⟨b, o, none⟩ = some (arr.getD o undef) := by
  unfold World.cell?
  rw [h]
  simp [Array.getD, ho]

theorem idx_lt {r c k m : Nat} (hr : r < m) (hc : c < k) : r * k + c < m * k := by
  calc r * k + c < r * k + k := by omega
    _ = (r + 1) * k := by rw [Nat.add_mul, Nat.one_mul]
    _ ≤ m * k := Nat.mul_le_mul_right k hr

theorem load_fine {P : Program} {c : Cfg} {s : S} {t : TypeId} {p : D} {x : Value} {K : D → S → Prop} (hok : c.Ok s) (hp : c.Rep p x) (h : aLoad P t p s K) :
    ∃ v d, (Instr.loadAt t x).run P c.W = .ok v c.W ∧ c.Rep d v ∧ K d s := by
  unfold aLoad at h
  split at h
  · exact h.elim
  rename_i ag n hl
  cases hp with
  | rp k row off b o g hb hg ho hr =>
    obtain ⟨⟨h1, h2⟩, h3⟩ := h
    refine ⟨_, _, ?_, rep_mkv (f := fun j => row (off + j)) (g := fun j => g (off + j)) h2 (fun j hj => ho _ (by omega)) (fun j hj => hr _ (by omega)), h3⟩
    simp only [Instr.loadAt, Instr.sureAddr, Sem.run_bind, Sem.run_pure, Result.andThen_ok]
    exact run_loadVar_cells hl h2 c.W b (o + off) (fun j => g (off + j)) (fun j hj => by rw [Nat.add_assoc]; exact hg _ (by omega))
  | mp f i k r cc b cp hβ =>
    simp only at h
    split at h
    · rename_i k' m ty cell hB
      obtain ⟨⟨rfl, h1, h2, h3⟩, h4⟩ := h
      obtain ⟨hk, hm, arr, ha, hsz, hcell⟩ := hok.at_ hB hβ
      have hlt : ∀ j, j < n → r * k' + (cc + j) < arr.size := fun j hj => by
        rw [hsz]; exact idx_lt (by omega) (by omega)
      refine ⟨_, _, ?_, rep_mkv (f := fun j => cell r (cc + j)) (g := fun j => arr.getD (r * k' + (cc + j)) undef) h3 (fun j hj => (hcell r (cc + j) h1 (by omega)).1) (fun j hj => (hcell r (cc + j) h1 (by omega)).2), h4⟩
      simp only [Instr.loadAt, Instr.sureAddr, Sem.run_bind, Sem.run_pure, Result.andThen_ok]
      exact run_loadVar_cells hl h3 c.W b (r * k' + cc) _ (fun j hj => by rw [Nat.add_assoc]; exact arr_cell ha (hlt j hj))
    · exact h.elim
  | _ => exact h.elim

def aFld (P : Program) (t : TypeId) (p : D) (f : Nat) (s : S) (K : D → S → Prop) : Prop :=
  match tFld P t f with
  | none => False
  | some o =>
    match p with
    | .rp k row off => K (.rp k row (off + o)) s
    | .mp f i k r c => K (.mp f i k r (c + o)) s
    | _ => False

theorem tFld_some {P : Program} {t : TypeId} {f o : Nat} (h : tFld P t f = some o) :
    ∃ fs fx i, P.underlying t = some (.struct fs) ∧ fs[f]? = some fx ∧ P.info? fx.type = some i ∧ i.size ≠ 0 ∧ o = fx.offset := by
  unfold tFld at h
  cases hu : P.underlying t with
  | none => simp [hu] at h
  | some d =>
    cases d <;> simp only [hu, reduceCtorEq] at h
    rename_i fs
    cases hf : fs[f]? with
    | none => simp [hf] at h
    | some fx =>
      cases hi : P.info? fx.type with
      | none => simp [hf, hi] at h
      | some i =>
        by_cases hz : i.size = 0
        · simp [hf, hi, hz] at h
        · simp [hf, hi, hz] at h
          exact ⟨fs, fx, i, rfl, hf, hi, hz, h.symm⟩

theorem fld_fine {P : Program} {c : Cfg} {s : S} {t : TypeId} {p : D} {x : Value} {f : Nat} {K : D → S → Prop} (hp : c.Rep p x) (h : aFld P t p f s K) :
    ∃ v d, (Instr.fieldAt t x f).run P c.W = .ok v c.W ∧ c.Rep d v ∧ K d s := by
  unfold aFld at h
  split at h
  · exact h.elim
  rename_i o ho
  obtain ⟨fs, fx, i, hu, hf, hi, hz, rfl⟩ := tFld_some ho
  have hrun : ∀ b o, (Instr.fieldAt t (.pointer (some ⟨b, o, none⟩)) f).run P c.W = .ok (.pointer (some ⟨b, o + fx.offset, none⟩)) c.W := by
    intro b o
    simp [Instr.fieldAt, run_underlying' hu, hf, Instr.sureAddr, fieldPlace, run_sizeOf' hi, hz, addr_add]
  cases hp with
  | rp k row off b o g hb hg ho hr => exact ⟨_, _, hrun _ _, by rw [Nat.add_assoc]; exact .rp k row (off + fx.offset) b o g hb hg ho hr, h⟩
  | mp f i k r cc b cp hβ => exact ⟨_, _, hrun _ _, by rw [Nat.add_assoc]; exact .mp f i k r (cc + fx.offset) b cp hβ, h⟩
  | _ => exact h.elim

def aIdx (P : Program) (t : TypeId) (x ix : D) (s : S) (K : D → S → Prop) : Prop :=
  match ix with
  | .v (.int _ i) =>
    match tElem P t with
    | some k' =>
      match x with
      | .sl k n row => (k = k' ∧ 0 ≤ i ∧ i < n) ∧ K (.rp k (row i.toNat) 0) s
      | .ms f j k lo len => (k = k' ∧ 0 ≤ i ∧ i < len) ∧ K (.mp f j k (lo + i.toNat) 0) s
      | _ => False
    | none =>
      match tArr P t with
      | some (n, es) =>
        match x with
        | .mp f j k r c => (0 ≤ i ∧ i < n) ∧ K (.mp f j k r (c + i.toNat * es)) s
        | .rp k row o => (0 ≤ i ∧ i < n) ∧ K (.rp k row (o + i.toNat * es)) s
        | _ => False
      | none => False
  | _ => False

theorem tElem_some {P : Program} {t : TypeId} {k : Nat} (h : tElem P t = some k) : ∃ el i, P.underlying t = some (.slice el) ∧ P.info? el = some i ∧ i.size = k := by
  unfold tElem at h
  split at h
  · rename_i el hu
    cases hi : P.info? el with
    | none => simp [hi] at h
    | some i => simp [hi] at h; exact ⟨el, i, hu, hi, h⟩
  · cases h

theorem tArr_some {P : Program} {t : TypeId} {n k : Nat} (h : tArr P t = some (n, k)) : ∃ el i, P.underlying t = some (.array n el) ∧ P.info? el = some i ∧ i.size = k := by
  unfold tArr at h
  split at h
  · rename_i m el hu
    cases hi : P.info? el with
    | none => simp [hi] at h
    | some i => simp [hi] at h; obtain ⟨rfl, h⟩ := h; exact ⟨el, i, hu, hi, h⟩
  · cases h

theorem run_indexAt_slice {P : Program} {t : TypeId} {k : Nat} (h : tElem P t = some k) (w : World) (b o len cap : Nat) (kd : IntKind) (i : Int) (h0 : 0 ≤ i) (h1 : i < len) :
    (Instr.indexAt t (.slice (some ⟨b, o, none⟩) len cap) (.int kd i)).run P w = .ok (.pointer (some ⟨b, o + i.toNat * k, none⟩)) w := by
  obtain ⟨el, inf, hu, hi, hs⟩ := tElem_some h
  simp [Instr.indexAt, asIntOf, run_underlying' hu, h0, h1, run_sizeOf' hi, hs, addr_add]

theorem run_indexAt_array {P : Program} {t : TypeId} {n k : Nat} (h : tArr P t = some (n, k)) (w : World) (b o : Nat) (kd : IntKind) (i : Int) (h0 : 0 ≤ i) (h1 : i < n) :
    (Instr.indexAt t (.pointer (some ⟨b, o, none⟩)) (.int kd i)).run P w = .ok (.pointer (some ⟨b, o + i.toNat * k, none⟩)) w := by
  obtain ⟨el, inf, hu, hi, hs⟩ := tArr_some h
  simp [Instr.indexAt, asIntOf, Instr.sureAddr, run_underlying' hu, h0, h1, run_sizeOf' hi, hs, addr_add]

theorem idx_fine {P : Program} {c : Cfg} {s : S} {t : TypeId} {p ix : D} {x y : Value} {K : D → S → Prop} (hp : c.Rep p x) (hy : c.Rep ix y) (h : aIdx P t p ix s K) :
    ∃ v d, (Instr.indexAt t x y).run P c.W = .ok v c.W ∧ c.Rep d v ∧ K d s := by
  unfold aIdx at h
  split at h <;> try (exact h.elim)
  rename_i kd i
  cases hy
  split at h
  · rename_i k' he
    cases hp with
    | sl k n row b off cap g hb hc hg ho hr =>
      obtain ⟨⟨rfl, h1, h2⟩, h3⟩ := h
      refine ⟨_, _, run_indexAt_slice he _ _ _ _ _ _ _ h1 h2, ?_, h3⟩
      have hi : i.toNat < n := by omega
      exact .rp k (row i.toNat) 0 b (off + i.toNat * k) (g i.toNat) hb (fun j hj => by rw [Nat.add_assoc]; exact hg _ _ hi hj) (fun j hj => ho _ _ hi hj) (fun j hj => hr _ _ hi hj)
    | slnil k row => obtain ⟨⟨_, h1, h2⟩, _⟩ := h; omega
    | sl0 k row a cap => obtain ⟨⟨_, h1, h2⟩, _⟩ := h; omega
    | ms f j k lo len b cp cap hβ hc hcp =>
      obtain ⟨⟨rfl, h1, h2⟩, h3⟩ := h
      refine ⟨_, _, run_indexAt_slice he _ _ _ _ _ _ _ h1 h2, ?_, h3⟩
      have := Rep.mp (K := c.K) (W := c.W) f j k (lo + i.toNat) 0 b cp hβ
      rwa [Nat.add_zero, Nat.add_mul] at this
    | msnil f j k lo => obtain ⟨⟨_, h1, h2⟩, _⟩ := h; omega
    | _ => exact h.elim
  · split at h <;> try (exact h.elim)
    rename_i n es ha
    cases hp with
    | mp f j k r cc b cp hβ =>
      obtain ⟨⟨h1, h2⟩, h3⟩ := h
      exact ⟨_, _, run_indexAt_array ha _ _ _ _ _ h1 h2, by rw [Nat.add_assoc]; exact .mp f j k r _ b cp hβ, h3⟩
    | rp k row o b o' g hb hg ho hr =>
      obtain ⟨⟨h1, h2⟩, h3⟩ := h
      exact ⟨_, _, run_indexAt_array ha _ _ _ _ _ h1 h2, by rw [Nat.add_assoc]; exact .rp k row _ b o' g hb hg ho hr, h3⟩
    | _ => exact h.elim

/-! ### Parts of slices -/
/-- A bound of a part, or what stands for none. -/
def bnd (x : Option D) (d : Int) : Int :=
  match x with
  | none => d
  | some (.v (.int _ i)) => i
  | some _ => -1
def shift (l : Nat) (row : Nat → Nat → D) : Nat → Nat → D := fun i j => row (l + i) j
def ASliceL (k' : Option Nat) (x : D) (lo hi : Option D) (s : S) (K : D → S → Prop) : Prop :=
  match k' with
  | some k' =>
    match x with
    | .sl k n row => (k = k' ∧ 0 ≤ bnd lo 0 ∧ bnd lo 0 ≤ bnd hi n ∧ bnd hi n ≤ n) ∧ K (.sl k ((bnd hi n).toNat - (bnd lo 0).toNat) (shift (bnd lo 0).toNat row)) s
    | .ms f i k lo' n => (k = k' ∧ bnd lo 0 = 0 ∧ 0 ≤ bnd hi n ∧ bnd hi n ≤ n) ∧ K (.ms f i k lo' (bnd hi n).toNat) s
    | _ => False
  | none => False
def aSlice (P : Program) (t : TypeId) (x : D) (lo hi : Option D) (s : S) (K : D → S → Prop) : Prop := ASliceL (tElem P t) x lo hi s K
def boundOk (c : Cfg) : Option D → Option Value → Prop
  | none, none => True
  | some d, some v => c.Rep d v
  | _, _ => False
theorem bnd_none {c : Cfg} {v : Option Value} (h : boundOk c none v) : v = none := by
  cases v with
  | none => rfl
  | some v => exact h.elim
theorem bnd_some {c : Cfg} {d : D} {v : Option Value} {z : Int} (h : boundOk c (some d) v) (h0 : 0 ≤ bnd (some d) z) : ∃ k, v = some (.int k (bnd (some d) z)) := by
  cases v with
  | none => exact h.elim
  | some v =>
    unfold bnd at h0 ⊢
    split at h0
    · rename_i hh; cases hh
    · rename_i k i hh
      cases hh
      cases h
      exact ⟨k, rfl⟩
    · omega
theorem run_slice_part {P : Program} {t : TypeId} {k : Nat} (h : tElem P t = some k) (w : World) (a : Option Addr) (n cap : Nat) (lo hi : Option D) (lv hv : Option Value) {c : Cfg}
    (hl : boundOk c lo lv) (hh : boundOk c hi hv) (h0 : 0 ≤ bnd lo 0) (h1 : bnd lo 0 ≤ bnd hi n) (h2 : bnd hi n ≤ n) (h3 : n ≤ cap) :
    (Instr.sliceAt t (.slice a n cap) lv hv none).run P w =
      .ok (.slice (if cap = (bnd lo 0).toNat then a else a.map (fun x : Addr => x.add ((bnd lo 0).toNat * k))) ((bnd hi n).toNat - (bnd lo 0).toNat) (cap - (bnd lo 0).toNat)) w := by
  obtain ⟨el, inf, hu, hi', hs⟩ := tElem_some h
  have hel : P.elem t = el := by simp [Program.elem, hu]
  have hu' : P.underlying t = some (.slice (P.elem t)) := by rw [hel]; exact hu
  have hsz := run_sizeOf' hi' w
  rw [run_sliceAt_slice (P := P) w t _ _ _ _ hu']
  cases lo with
  | none =>
    obtain rfl := bnd_none hl
    cases hi with
    | none =>
      obtain rfl := bnd_none hh
      rw [run_slice_all w t a n cap hu', hel, hsz]
      simp [Result.andThen, sliced, bnd, hs]
    | some d =>
      obtain ⟨kh, rfl⟩ := bnd_some (z := n) hh (by have : bnd none 0 = 0 := rfl; omega)
      rw [run_slice_h w t a n cap hu' kh _ (by have : bnd none 0 = 0 := rfl; omega) (by omega), hel, hsz]
      have e0 : bnd none 0 = 0 := rfl
      rw [e0]; simp [Result.andThen, sliced, hs]
  | some x =>
    obtain ⟨kl, rfl⟩ := bnd_some (z := 0) hl h0
    cases hi with
    | none =>
      obtain rfl := bnd_none hh
      have e0 : bnd none (n : Int) = n := rfl
      rw [run_slice_l w t a n cap hu' kl _ h0 (by omega), hel, hsz, e0]
      simp [Result.andThen, sliced, hs]
    | some d =>
      obtain ⟨kh, rfl⟩ := bnd_some (z := n) hh (by omega)
      rw [run_slice_lh w t a n cap hu' kl kh _ _ h0 h1 (by omega), hel, hsz]
      simp [Result.andThen, sliced, hs]
theorem slice_fine {P : Program} {c : Cfg} {s : S} {t : TypeId} {p : D} {x : Value} {lo hi : Option D} {lv hv : Option Value} {K : D → S → Prop} (hp : c.Rep p x) (hl : boundOk c lo lv) (hh : boundOk c hi hv) (h : aSlice P t p lo hi s K) :
    ∃ v d, (Instr.sliceAt t x lv hv none).run P c.W = .ok v c.W ∧ c.Rep d v ∧ K d s := by
  unfold aSlice at h
  cases he : tElem P t with
  | none => rw [he] at h; exact h.elim
  | some k' =>
    rw [he] at h
    unfold ASliceL at h
    cases hp with
    | sl k n row b off cap g hb hc hg ho hr =>
      obtain ⟨⟨rfl, h0, h1, h2⟩, hK⟩ := h
      refine ⟨_, _, run_slice_part he _ _ _ _ _ _ _ _ hl hh h0 h1 h2 hc, ?_, hK⟩
      generalize hL : (bnd lo 0).toNat = L at *
      generalize hH : (bnd hi (n : Int)).toNat = H at *
      have hHn : H ≤ n := by omega
      have hLH : L ≤ H := by omega
      by_cases hcl : cap = L
      · rw [if_pos hcl]
        have : H - L = 0 := by omega
        rw [this]; exact .sl0 k _ _ _
      · rw [if_neg hcl, Option.map_some, addr_add]
        refine .sl k (H - L) _ b (off + L * k) (cap - L) (fun i j => g (L + i) j) hb (by omega) (fun i j hi hj => ?_) (fun i j hi hj => ho _ _ (by omega) hj) (fun i j hi hj => hr _ _ (by omega) hj)
        have := hg (L + i) j (by omega) hj
        rw [Nat.add_mul] at this
        rw [show off + L * k + (i * k + j) = off + (L * k + i * k + j) by omega]; exact this
    | slnil k row =>
      obtain ⟨⟨rfl, h0, h1, h2⟩, hK⟩ := h
      refine ⟨_, _, run_slice_part he _ _ _ _ _ _ _ _ hl hh h0 h1 h2 (Nat.le_refl _), ?_, hK⟩
      have e1 : bnd lo 0 = 0 := by omega
      have e2 : bnd hi ((0 : Nat) : Int) = 0 := by omega
      rw [e1, e2]; exact .slnil k _
    | sl0 k row a cap =>
      obtain ⟨⟨rfl, h0, h1, h2⟩, hK⟩ := h
      refine ⟨_, _, run_slice_part he _ _ _ _ _ _ _ _ hl hh h0 h1 h2 (Nat.zero_le _), ?_, hK⟩
      have e1 : bnd lo 0 = 0 := by omega
      have e2 : bnd hi ((0 : Nat) : Int) = 0 := by omega
      rw [e1, e2]
      split
      · exact .sl0 k _ _ _
      · exact .sl0 k _ _ _
    | ms f i k lo' n b cp cap hβ hc hcp =>
      obtain ⟨⟨rfl, h0, h1, h2⟩, hK⟩ := h
      refine ⟨_, _, run_slice_part he _ _ _ _ _ _ _ _ hl hh (by omega) (by omega) h2 hc, ?_, hK⟩
      rw [h0]
      have e3 : (if cap = (0 : Int).toNat then (some ⟨b, lo' * k, none⟩ : Option Addr) else Option.map (fun x : Addr => x.add ((0 : Int).toNat * k)) (some ⟨b, lo' * k, none⟩)) = some ⟨b, lo' * k, none⟩ := by
        split
        · rfl
        · rw [Option.map_some, addr_add]; simp
      rw [e3]
      exact .ms f i k lo' _ b cp _ hβ (by simp; omega) (by simpa using hcp)
    | msnil f i k lo' =>
      obtain ⟨⟨rfl, h0, h1, h2⟩, hK⟩ := h
      refine ⟨_, _, run_slice_part he _ _ _ _ _ _ _ _ hl hh (by omega) (by omega) h2 (Nat.le_refl _), ?_, hK⟩
      have e2 : bnd hi ((0 : Nat) : Int) = 0 := by omega
      rw [h0, e2]; exact .msnil f i k _
    | _ => exact h.elim

end Go.Abs
end
section
/-
  An abstract machine over the model, part 3: new objects and writes.
-/
namespace Go.Abs
open Go

/-- The cells of a value; none where they aren't known. -/
def D.cells? : D → Option (List D)
  | .any => none
  | .tup _ => none
  | .agg cs => some cs
  | .v x => if x.oneCell' then some [.v x] else none
  | d => some [d]

theorem one_cells {x : Value} (h : x.oneCell' = true) : x.cells = #[x] := by
  cases x <;> first | rfl | (simp [Value.oneCell'] at h)

/-- Cells of a value, with what they stand for. -/
structure CellsRep (c : Cfg) (cs : List D) (xs : List Value) : Prop where
  len : xs.length = cs.length
  one : ∀ x ∈ xs, x.oneCell' = true
  rep : ∀ i d, cs[i]? = some d → c.Rep d (xs.getD i undef)

theorem CellsRep.single {c : Cfg} {d : D} {x : Value} (h1 : x.oneCell' = true) (h : c.Rep d x) : CellsRep c [d] [x] where
  len := rfl
  one y hy := by simp at hy; subst hy; exact h1
  rep i e he := by
    cases i with
    | zero => simp at he; subst he; exact h
    | succ i => simp at he

theorem cells_rep {c : Cfg} {d : D} {x : Value} {cs : List D} (hc : d.cells? = some cs) (h : c.Rep d x) : ∃ xs : List Value, x.cells = xs.toArray ∧ CellsRep c cs xs := by
  cases h with
  | any => simp [D.cells?] at hc
  | tup => simp [D.cells?] at hc
  | agg cs' xs hl ho h =>
    simp only [D.cells?, Option.some.injEq] at hc; subst hc
    exact ⟨xs, rfl, hl, ho, h⟩
  | v =>
    simp only [D.cells?] at hc
    split at hc
    · rename_i h1
      simp only [Option.some.injEq] at hc; subst hc
      exact ⟨[x], one_cells h1, .single h1 (.v x)⟩
    · cases hc
  | sl k n row b off cap g hb hc' hg ho hr => simp only [D.cells?, Option.some.injEq] at hc; subst hc; exact ⟨[_], rfl, .single rfl (.sl k n row b off cap g hb hc' hg ho hr)⟩
  | slnil k row => simp only [D.cells?, Option.some.injEq] at hc; subst hc; exact ⟨[_], rfl, .single rfl (.slnil k row)⟩
  | sl0 k row a cap => simp only [D.cells?, Option.some.injEq] at hc; subst hc; exact ⟨[_], rfl, .single rfl (.sl0 k row a cap)⟩
  | rp k row off b o g hb hg ho hr => simp only [D.cells?, Option.some.injEq] at hc; subst hc; exact ⟨[_], rfl, .single rfl (.rp k row off b o g hb hg ho hr)⟩
  | mp f i k r c' b cp hβ => simp only [D.cells?, Option.some.injEq] at hc; subst hc; exact ⟨[_], rfl, .single rfl (.mp f i k r c' b cp hβ)⟩
  | ms f i k lo len b cp cap hβ h1 h2 => simp only [D.cells?, Option.some.injEq] at hc; subst hc; exact ⟨[_], rfl, .single rfl (.ms f i k lo len b cp cap hβ h1 h2)⟩
  | msnil f i k lo => simp only [D.cells?, Option.some.injEq] at hc; subst hc; exact ⟨[_], rfl, .single rfl (.msnil f i k lo)⟩
  | fn f cs' xs hl h => simp only [D.cells?, Option.some.injEq] at hc; subst hc; exact ⟨[_], rfl, .single rfl (.fn f cs' xs hl h)⟩
  | ifc t d x h => simp only [D.cells?, Option.some.injEq] at hc; subst hc; exact ⟨[_], rfl, .single rfl (.ifc t d x h)⟩
  | mm f i b cp hβ => simp only [D.cells?, Option.some.injEq] at hc; subst hc; exact ⟨[_], rfl, .single rfl (.mm f i b cp hβ)⟩

def rowOf (cs : List D) : Nat → Nat → D := fun r c => if r = 0 then cs.getD c .any else .any

/-- A new variable. -/
def S.newVar (s : S) (t : TypeId) (cs : List D) : S := s.push (.blk cs.length 1 t (rowOf cs))

theorem newVar_obj {c : Cfg} {s : S} (hok : c.Ok s) (t : TypeId) {cs : List D} {xs : List Value} (h : CellsRep c cs xs) :
    Ext c (c.push s (.cells xs.toArray t) 1) ∧ (c.push s (.cells xs.toArray t) 1).Ok (s.newVar t cs) ∧
    (c.push s (.cells xs.toArray t) 1).Rep (.mp s.nx 0 cs.length 0 0) (.pointer (some ⟨c.W.heap.size, 0, none⟩)) := by
  refine ⟨push_ext hok _ _, push_ok hok _ _ _ ?_, ?_⟩
  · refine ⟨Nat.le_refl _, xs.toArray, heap_push_new _ _, by simp [h.len], fun r j hr hj => ?_⟩
    have hr0 : r = 0 := by omega
    subst hr0
    have hj' : j < xs.length := by rw [h.len]; exact hj
    simp only [Nat.zero_mul, Nat.zero_add]
    have e : xs.toArray.getD j undef = xs.getD j undef := by simp [Array.getD, List.getD, hj']
    rw [e]
    refine ⟨?_, ?_⟩
    · apply h.one
      simp [List.getD, List.getElem?_eq_getElem hj']
    · have := h.rep j (cs.getD j .any) (by simp [List.getD, List.getElem?_eq_getElem hj])
      exact this.mono (fun _ h => h) (fun _ _ _ h => h) (fun b hb => heap_push_lt _ _ (hok.kb b hb))
  · have := Rep.mp (K := (c.push s (.cells xs.toArray t) 1).K) (W := (c.push s (.cells xs.toArray t) 1).W) (β := (c.push s (.cells xs.toArray t) 1).β) s.nx 0 cs.length 0 0 c.W.heap.size 1 (by simp [Cfg.push, Pl.add])
    simpa using this

def aBox (t : TypeId) (d : D) (s : S) (K : D → S → Prop) : Prop :=
  match d.cells? with
  | some cs => K (.mp s.nx 0 cs.length 0 0) (s.newVar t cs)
  | none => False

theorem box_fine {P : Program} {c : Cfg} {s : S} {t : TypeId} {d : D} {x : Value} {K : D → S → Prop} (hok : c.Ok s) (hp : c.Rep d x) (h : aBox t d s K) :
    ∃ c' v d' s', (Instr.box t x).run P c.W = .ok v c'.W ∧ Ext c c' ∧ c'.Ok s' ∧ c'.Rep d' v ∧ K d' s' := by
  unfold aBox at h
  split at h
  · rename_i cs hc
    obtain ⟨xs, hx, hr⟩ := cells_rep hc hp
    obtain ⟨h1, h2, h3⟩ := newVar_obj hok t hr
    refine ⟨_, _, _, _, ?_, h1, h2, h3, h⟩
    simp [Instr.box, newVar, newRow, hx, Cfg.push]
  · exact h.elim

/-- The zero value's cells. -/
def tZ (P : Program) (t : TypeId) : Option (List Value) :=
  match (P.info? t).bind (·.zero) with
  | some z => if z.cells.toList.all Value.oneCell' then some z.cells.toList else none
  | none => none

theorem tZ_some {P : Program} {t : TypeId} {zs : List Value} (h : tZ P t = some zs) :
    ∃ z i, P.info? t = some i ∧ i.zero = some z ∧ z.cells = zs.toArray ∧ ∀ x ∈ zs, x.oneCell' = true := by
  unfold tZ at h
  split at h
  · rename_i z hz
    split at h
    · rename_i ha
      cases hi : P.info? t with
      | none => simp [hi] at hz
      | some i =>
        simp only [hi, Option.bind_some] at hz
        simp only [Option.some.injEq] at h
        subst h
        exact ⟨z, i, rfl, hz, by simp, fun x hx => List.all_eq_true.1 ha x hx⟩
    · cases h
  · cases h

theorem CellsRep.lit (c : Cfg) {zs : List Value} (h : ∀ x ∈ zs, x.oneCell' = true) : CellsRep c (zs.map .v) zs where
  len := by simp
  one := h
  rep i d hd := by
    simp only [List.getElem?_map] at hd
    cases hz : zs[i]? with
    | none => simp [hz] at hd
    | some z =>
      simp only [hz, Option.map_some, Option.some.injEq] at hd
      subst hd
      simp only [List.getD, hz, Option.getD_some]
      exact .v z

def aAlloc (P : Program) (t : TypeId) (s : S) (K : D → S → Prop) : Prop :=
  match tZ P t with
  | some zs => K (.mp s.nx 0 (zs.map D.v).length 0 0) (s.newVar t (zs.map D.v))
  | none => False

theorem alloc_fine {P : Program} {c : Cfg} {s : S} {t : TypeId} {K : D → S → Prop} (hok : c.Ok s) (h : aAlloc P t s K) :
    ∃ c' v d' s', (Instr.alloc t true (.tuple #[])).run P c.W = .ok v c'.W ∧ Ext c c' ∧ c'.Ok s' ∧ c'.Rep d' v ∧ K d' s' := by
  unfold aAlloc at h
  split at h
  · rename_i zs hz
    obtain ⟨z, i, hi, hz, hc, h1⟩ := tZ_some hz
    obtain ⟨e1, e2, e3⟩ := newVar_obj hok t (CellsRep.lit c h1)
    refine ⟨_, _, _, _, ?_, e1, e2, e3, h⟩
    simp [Instr.alloc, zeroValue, run_typeInfo' hi, hz, newVar, newRow, hc, Cfg.push]
  · exact h.elim

/-- Some cells of a row anew. -/
def setC (cell : Nat → Nat → D) (r c : Nat) (cs : List D) : Nat → Nat → D :=
  fun r' c' => if r' = r ∧ c ≤ c' ∧ c' < c + cs.length then cs.getD (c' - c) .any else cell r' c'

def aStore (P : Program) (t : TypeId) (p d : D) (s : S) (K : S → Prop) : Prop :=
  match tLay P t with
  | none => False
  | some (_, n) =>
    match p with
    | .mp f i k r c =>
      match s.o f i with
      | some (.blk k' m ty cell) =>
        match d.cells? with
        | some cs => (k' = k ∧ r < m ∧ c + n ≤ k ∧ cs.length = n) ∧ K (s.put f i (.blk k m ty (setC cell r c cs)))
        | none => False
      | _ => False
    | _ => False

theorem mid_get (l vs : List Value) (o j : Nat) (ho : o + vs.length ≤ l.length) :
    (l.take o ++ vs ++ l.drop (o + vs.length)).getD j undef = if o ≤ j ∧ j < o + vs.length then vs.getD (j - o) undef else l.getD j undef := by
  simp only [List.getD_eq_getElem?_getD]
  by_cases h1 : j < o
  · rw [if_neg (by omega), List.append_assoc, List.getElem?_append_left (by simp; omega), List.getElem?_take, if_pos h1]
  · by_cases h2 : j < o + vs.length
    · rw [if_pos (by omega), List.append_assoc, List.getElem?_append_right (by simp; omega), List.getElem?_append_left (by simp; omega)]
      congr 2; simp; omega
    · rw [if_neg (by omega), List.getElem?_append_right (by simp; omega), List.getElem?_drop]
      congr 2; simp; omega

theorem mid_length (l vs : List Value) (o : Nat) (ho : o + vs.length ≤ l.length) : (l.take o ++ vs ++ l.drop (o + vs.length)).length = l.length := by
  simp; omega

theorem arr_getD (a : Array Value) (j : Nat) : a.getD j undef = a.toList.getD j undef := by
  rw [Array.getD_eq_getD_getElem?, List.getD_eq_getElem?_getD, Array.getElem?_toList]

theorem idx_eq {r c k r' c' : Nat} (hc : c < k) (hc' : c' < k) (h : r * k + c = r' * k + c') : r = r' ∧ c = c' := by
  have hk : 0 < k := by omega
  have h1 : (r * k + c) / k = r := by rw [Nat.mul_comm, Nat.mul_add_div hk, Nat.div_eq_of_lt hc]; omega
  have h2 : (r' * k + c') / k = r' := by rw [Nat.mul_comm, Nat.mul_add_div hk, Nat.div_eq_of_lt hc']; omega
  have h3 : r = r' := by rw [← h1, ← h2, h]
  subst h3
  exact ⟨rfl, by omega⟩

theorem touch_setRow (w : World) (b : Nat) (cs : Array Value) : Touch w (w.setRow b cs) b :=
  ⟨by simp, fun b' h => setRow_other w b b' cs h, rfl, rfl, rfl⟩

theorem store_fine {P : Program} {c : Cfg} {s : S} {t : TypeId} {p d : D} {x y : Value} {K : S → Prop} (hok : c.Ok s) (hp : c.Rep p x) (hd : c.Rep d y) (h : aStore P t p d s K) :
    ∃ c' s', (Instr.storeAt t x y).run P c.W = .ok () c'.W ∧ Ext c c' ∧ c'.Ok s' ∧ K s' := by
  unfold aStore at h
  split at h
  · exact h.elim
  rename_i ag n hl
  obtain ⟨ds, inf, hu, hi, _, hs⟩ := tLay_some hl
  cases hp with
  | mp f i k r cc b cp hβ =>
    simp only at h
    split at h <;> try (exact h.elim)
    rename_i k' m ty cell hB
    split at h <;> try (exact h.elim)
    rename_i cs hcs
    obtain ⟨⟨rfl, h1, h2, h3⟩, h4⟩ := h
    obtain ⟨hk, hm, arr, ha, hsz, hcell⟩ := hok.at_ hB hβ
    obtain ⟨xs, hx, hr⟩ := cells_rep hcs hd
    have hlen : xs.length = n := by rw [hr.len, h3]
    have hbound : r * k' + cc + xs.length ≤ arr.size := by
      rw [hsz, hlen]
      have : r * k' + k' ≤ cp * k' := by
        rw [← Nat.succ_mul]; exact Nat.mul_le_mul_right _ (by omega)
      omega
    have hT := touch_setRow c.W b (arr.toList.take (r * k' + cc) ++ xs ++ arr.toList.drop (r * k' + cc + xs.length)).toArray
    refine ⟨{ c with W := _ }, _, ?_, touch_ext hok hB hβ hT, touch_ok hok hB hβ hT ?_, h4⟩
    · have hst := run_storeCells_at (P := P) b (r * k' + cc) ty xs 0 arr c.W ha (by omega) hr.one
      simp only [Nat.add_zero] at hst
      simp only [Instr.storeAt, Instr.sureAddr, storeVar, Sem.run_bind, Sem.run_pure, Result.andThen_ok, run_sizeOf' hi, hx]
      rw [if_neg (by simp; omega)]
      simpa using hst
    · refine ⟨hm, _, setRow_heap c.W b arr _ ty (0, 0) ha, ?_, fun r1 c1 hr1 hc1 => ?_⟩
      · simp only [List.size_toArray]
        rw [mid_length _ _ _ (by simpa using hbound)]
        simpa using hsz
      · have e : ∀ j, (arr.toList.take (r * k' + cc) ++ xs ++ arr.toList.drop (r * k' + cc + xs.length)).toArray.getD j undef = if r * k' + cc ≤ j ∧ j < r * k' + cc + xs.length then xs.getD (j - (r * k' + cc)) undef else arr.getD j undef := by
          intro j
          rw [arr_getD, arr_getD]
          exact mid_get arr.toList xs (r * k' + cc) j (by simpa using hbound)
        rw [e]
        have hkeep : ∀ {d0 : D} {v0 : Value}, c.Rep d0 v0 → Abs.Rep c.K c.β (c.W.setRow b (arr.toList.take (r * k' + cc) ++ xs ++ arr.toList.drop (r * k' + cc + xs.length)).toArray) d0 v0 :=
          fun h0 => (touch_ext hok hB hβ hT).rep h0
        unfold setC
        by_cases hh : r1 = r ∧ cc ≤ c1 ∧ c1 < cc + cs.length
        · obtain ⟨rfl, hh1, hh2⟩ := hh
          rw [if_pos (by omega), if_pos ⟨rfl, hh1, hh2⟩]
          have hj : c1 - cc < cs.length := by omega
          have hidx : r1 * k' + c1 - (r1 * k' + cc) = c1 - cc := by omega
          rw [hidx]
          refine ⟨hr.one _ ?_, hkeep (hr.rep (c1 - cc) _ (by simp [List.getD, List.getElem?_eq_getElem hj]))⟩
          simp [List.getD, List.getElem?_eq_getElem (show c1 - cc < xs.length by rw [hr.len]; exact hj)]
        · rw [if_neg hh]
          have hne : ¬ (r * k' + cc ≤ r1 * k' + c1 ∧ r1 * k' + c1 < r * k' + cc + xs.length) := by
            intro ⟨g1, g2⟩
            have : r1 * k' + c1 = r * k' + (cc + (r1 * k' + c1 - (r * k' + cc))) := by omega
            have := idx_eq hc1 (by omega) this
            exact hh ⟨this.1, by omega, by rw [h3, ← hlen]; omega⟩
          rw [if_neg hne]
          exact ⟨(hcell r1 c1 hr1 hc1).1, hkeep (hcell r1 c1 hr1 hc1).2⟩
  | _ => exact h.elim

end Go.Abs
end
section
/-
  An abstract machine over the model, part 4: operators.
-/
namespace Go.Abs
open Go

def intBin (op : BinOp) (k : IntKind) (a b : Int) : Option Value :=
  match op with
  | .add => some (.int k (k.wrap (a + b)))
  | .sub => some (.int k (k.wrap (a - b)))
  | .mul => some (.int k (k.wrap (a * b)))
  | .quo => if b = 0 then none else some (.int k (k.wrap (a.tdiv b)))
  | .rem => if b = 0 then none else some (.int k (a.tmod b))
  | .eql => some (.bool (a == b))
  | .neq => some (.bool (a != b))
  | .lss => some (.bool (decide (a < b)))
  | .leq => some (.bool (decide (a ≤ b)))
  | .gtr => some (.bool (decide (b < a)))
  | .geq => some (.bool (decide (b ≤ a)))
  | .shr => if 0 ≤ b ∧ b.toNat ≤ k.bits then some (.int k (a.fdiv (2 ^ b.toNat))) else none
  | _ => none

theorem intBin_run {P : Program} {w : World} {op : BinOp} {t : TypeId} {k : IntKind} {a b : Int} {v : Value} (h : intBin op k a b = some v) :
    (binOp op t (.int k a) (.int k b)).run P w = .ok v w := by
  unfold intBin at h
  split at h <;> first
    | (simp only [Option.some.injEq] at h; subst h; simp [binOp, Op.intArith, Op.intCmp])
    | (split at h
       · cases h
       · rename_i hb
         simp only [Option.some.injEq] at h; subst h; simp [binOp, Op.intDiv, hb])
    | (split at h
       · rename_i hb
         simp only [Option.some.injEq] at h; subst h
         simp [binOp, Op.shift, Int.not_lt.2 hb.1, Nat.min_eq_left hb.2]
       · cases h)
    | cases h

/-- Scalars that '==' compares. -/
inductive Sc
  | b | i (k : IntKind) | s

def scOk : Sc → Value → Bool
  | .b, .bool _ => true
  | .i k, .int k' _ => decide (k = k')
  | .s, .string _ => true
  | _, _ => false

def sameV : Value → Value → Bool
  | .bool a, .bool b => a == b
  | .int _ a, .int _ b => a == b
  | .string a, .string b => a.toList == b.toList
  | _, _ => false

def fldShape (P : Program) (g : TypeId → Option (List Sc)) : List Field → Nat → Option (List Sc)
  | [], _ => some []
  | f :: fs, off =>
    if f.name = "_" ∨ f.offset ≠ off then none else
    match g f.type, P.underlying f.type, P.info? f.type with
    | some s1, some _, some i => if i.size ≠ s1.length then none else (fldShape P g fs (off + s1.length)).map (s1 ++ ·)
    | _, _, _ => none

def repS : Nat → List Sc → List Sc
  | 0, _ => []
  | n + 1, s => s ++ repS n s
/-- The scalars of a type, in order. -/
def eqShape (P : Program) : Nat → TypeId → Option (List Sc)
  | 0, _ => none
  | d + 1, t =>
    match P.underlying t with
    | some .bool => some [.b]
    | some (.int k) => some [.i k]
    | some .string => some [.s]
    | some (.struct fs) => if P.stoodInHeld t then none else fldShape P (eqShape P d) fs.toList 0
    | some (.array n e) => match eqShape P d e, P.underlying e, P.info? e with
      | some s1, some _, some i => if i.size ≠ s1.length ∨ s1.length = 0 then none else some (repS n s1)
      | _, _, _ => none
    | _ => none

def Conf (sh : List Sc) (xs : List Value) : Prop := xs.length = sh.length ∧ ∀ i c, sh[i]? = some c → scOk c (xs.getD i undef) = true

def allSame : List Value → List Value → Bool
  | x :: xs, y :: ys => sameV x y && allSame xs ys
  | _, _ => true

theorem allSame_append : ∀ (a b c d : List Value), a.length = c.length → allSame (a ++ b) (c ++ d) = (allSame a c && allSame b d)
  | [], b, [], d, _ => by simp [allSame]
  | x :: a, b, y :: c, d, h => by
    simp only [List.cons_append, allSame, allSame_append a b c d (by simpa using h), Bool.and_assoc]

/-- The value of a type out of its cells. -/
def ofCells (ag : Bool) (xs : List Value) : Value := if ag then .agg xs.toArray else xs.getD 0 undef

theorem part_run {P : Program} {w : World} {t : TypeId} {d : TypeDesc} {i : TypeInfo} (hu : P.underlying t = some d) (hi : P.info? t = some i) (xs : List Value) (off n : Nat) (hn : i.size = n)
    (hb : off + n ≤ xs.length) (h1 : descAgg d = false → n = 1) : (part t xs.toArray off).run P w = .ok (ofCells (descAgg d) ((xs.drop off).take n)) w := by
  simp only [part, Sem.run_bind, run_isAgg' hu, Result.andThen_ok]
  cases hd : descAgg d with
  | true =>
    simp only [if_true, Sem.run_bind, run_sizeOf' hi, Result.andThen_ok, Sem.run_pure, ofCells, hn]
    congr 2
    simp
  | false =>
    have hn1 := h1 hd
    subst hn1
    have hlt : off < xs.length := by omega
    simp [hlt, ofCells, List.getD, List.getElem?_drop]

theorem eqShape_scalar {P : Program} {d : Nat} {t : TypeId} {sh : List Sc} {ds : TypeDesc} (h : eqShape P d t = some sh) (hu : P.underlying t = some ds) (ha : descAgg ds = false) : sh.length = 1 := by
  cases d with
  | zero => cases h
  | succ d =>
    simp only [eqShape, hu] at h
    cases ds <;> simp_all [descAgg] <;> (try (subst h; rfl))

theorem Conf.drop {sh1 sh2 : List Sc} {xs pre : List Value} (h : Conf (sh1 ++ sh2) xs) (_ : pre = pre) : Conf sh1 (xs.take sh1.length) ∧ Conf sh2 (xs.drop sh1.length) := by
  obtain ⟨hl, hc⟩ := h
  simp only [List.length_append] at hl
  refine ⟨⟨by simp; omega, fun i c hi => ?_⟩, ⟨by simp; omega, fun i c hi => ?_⟩⟩
  · have hlt : i < sh1.length := by
      rcases Nat.lt_or_ge i sh1.length with h | h
      · exact h
      · rw [List.getElem?_eq_none h] at hi; cases hi
    have := hc i c (by rw [List.getElem?_append_left hlt]; exact hi)
    simpa [List.getD, List.getElem?_take, hlt] using this
  · have := hc (sh1.length + i) c (by rw [List.getElem?_append_right (by omega)]; simpa using hi)
    simpa [List.getD, List.getElem?_drop] using this

theorem eqFields_run {P : Program} {w : World} {d : Nat}
    (ih : ∀ t sh ds, eqShape P d t = some sh → P.underlying t = some ds → ∀ xs ys, Conf sh xs → Conf sh ys → (Op.equalIn d t (ofCells (descAgg ds) xs) (ofCells (descAgg ds) ys)).run P w = .ok (allSame xs ys) w) :
    ∀ (fs : List Field) (off : Nat) (sh : List Sc), fldShape P (eqShape P d) fs off = some sh → ∀ xs ys : List Value, Conf sh (xs.drop off) → Conf sh (ys.drop off) →
      (Op.eqFields d xs.toArray ys.toArray fs).run P w = .ok (allSame (xs.drop off) (ys.drop off)) w := by
  intro fs
  induction fs with
  | nil =>
    intro off sh h xs ys hx hy
    simp only [fldShape, Option.some.injEq] at h
    subst h
    have : xs.drop off = [] := List.eq_nil_of_length_eq_zero hx.1
    rw [this]
    simp [Op.eqFields, allSame]
  | cons f fs ihf =>
    intro off sh h xs ys hx hy
    unfold fldShape at h
    split at h
    · cases h
    rename_i hn
    have hname : f.name ≠ "_" := fun e => hn (.inl e)
    have hoff : f.offset = off := Decidable.byContradiction fun e => hn (.inr e)
    cases hg : eqShape P d f.type with
    | none => simp [hg] at h
    | some s1 =>
      cases hu : P.underlying f.type with
      | none => simp [hg, hu] at h
      | some ds =>
        cases hi : P.info? f.type with
        | none => simp [hg, hu, hi] at h
        | some inf =>
          simp only [hg, hu, hi] at h
          split at h
          · cases h
          rename_i hsz
          have hsz : inf.size = s1.length := Decidable.byContradiction fun e => hsz e
          cases hr : fldShape P (eqShape P d) fs (off + s1.length) with
          | none => simp [hr] at h
          | some s2 =>
            simp only [hr, Option.map_some, Option.some.injEq] at h
            subst h
            have hx' := hx.drop (pre := []) rfl
            have hy' := hy.drop (pre := []) rfl
            have hlx : off + s1.length ≤ xs.length ∨ s1.length = 0 := by
              have := hx.1; simp at this; omega
            have hly : off + s1.length ≤ ys.length ∨ s1.length = 0 := by
              have := hy.1; simp at this; omega
            have h1 : descAgg ds = false → s1.length = 1 := fun e => eqShape_scalar hg hu e
            by_cases hz : s1.length = 0
            · have : descAgg ds = true := by
                cases hd : descAgg ds with
                | true => rfl
                | false => have := h1 hd; omega
              have hp : ∀ zs : List Value, (part f.type zs.toArray f.offset).run P w = .ok (ofCells (descAgg ds) []) w := by
                intro zs
                simp only [part, Sem.run_bind, run_isAgg' hu, Result.andThen_ok, this, if_true, run_sizeOf' hi, Sem.run_pure, ofCells, hsz, hz]
                congr 2
                simp
              have hs0 : s1 = [] := List.eq_nil_of_length_eq_zero hz
              subst hs0
              have e0 := ih f.type [] ds hg hu [] [] ⟨rfl, fun i c hc => by simp at hc⟩ ⟨rfl, fun i c hc => by simp at hc⟩
              simp only [Op.eqFields, if_pos hname, Sem.run_bind, hp, Result.andThen_ok, e0, allSame, Bool.not_true, Bool.false_eq_true, if_false]
              have := ihf (off + 0) s2 hr xs ys (by simpa using hx) (by simpa using hy)
              simpa using this
            · have hpx := part_run (w := w) hu hi xs off s1.length hsz (by omega) h1
              have hpy := part_run (w := w) hu hi ys off s1.length hsz (by omega) h1
              have e1 := ih f.type s1 ds hg hu _ _ hx'.1 hy'.1
              have e2 := ihf (off + s1.length) s2 hr xs ys (by simpa [List.drop_drop] using hx'.2) (by simpa [List.drop_drop] using hy'.2)
              simp only [Op.eqFields, if_pos hname, Sem.run_bind, hoff, hpx, hpy, Result.andThen_ok, e1]
              have hsplit : allSame (xs.drop off) (ys.drop off) = (allSame ((xs.drop off).take s1.length) ((ys.drop off).take s1.length) && allSame (xs.drop (off + s1.length)) (ys.drop (off + s1.length))) := by
                conv => lhs; rw [← List.take_append_drop s1.length (xs.drop off), ← List.take_append_drop s1.length (ys.drop off)]
                rw [allSame_append _ _ _ _ (by simp; omega), List.drop_drop, List.drop_drop]
              rw [hsplit]
              cases hb : allSame ((xs.drop off).take s1.length) ((ys.drop off).take s1.length) with
              | true => simp [e2]
              | false => simp

theorem eqItems_run {P : Program} {w : World} {d : Nat} {e : TypeId} {s1 : List Sc} {ds : TypeDesc} {inf : TypeInfo} (hg : eqShape P d e = some s1) (hu : P.underlying e = some ds) (hi : P.info? e = some inf) (hsz : inf.size = s1.length) (hz : s1.length ≠ 0)
    (ih : ∀ xs ys, Conf s1 xs → Conf s1 ys → (Op.equalIn d e (ofCells (descAgg ds) xs) (ofCells (descAgg ds) ys)).run P w = .ok (allSame xs ys) w) :
    ∀ (n a : Nat) (xs ys : List Value), Conf (repS n s1) (xs.drop (a * s1.length)) → Conf (repS n s1) (ys.drop (a * s1.length)) →
      (Op.eqItems d e s1.length xs.toArray ys.toArray (List.range' a n)).run P w = .ok (allSame (xs.drop (a * s1.length)) (ys.drop (a * s1.length))) w := by
  intro n
  induction n with
  | zero =>
    intro a xs ys hx hy
    have : xs.drop (a * s1.length) = [] := List.eq_nil_of_length_eq_zero hx.1
    rw [this]
    simp [Op.eqItems, allSame]
  | succ n ihn =>
    intro a xs ys hx hy
    have hx' := Conf.drop (sh1 := s1) (sh2 := repS n s1) hx (pre := []) rfl
    have hy' := Conf.drop (sh1 := s1) (sh2 := repS n s1) hy (pre := []) rfl
    have hlx : a * s1.length + s1.length ≤ xs.length := by
      have := hx.1; simp [repS] at this; omega
    have hly : a * s1.length + s1.length ≤ ys.length := by
      have := hy.1; simp [repS] at this; omega
    have h1 : descAgg ds = false → s1.length = 1 := fun e => eqShape_scalar hg hu e
    have hpx := part_run (w := w) hu hi xs (a * s1.length) s1.length hsz hlx h1
    have hpy := part_run (w := w) hu hi ys (a * s1.length) s1.length hsz hly h1
    have e1 := ih _ _ hx'.1 hy'.1
    have hmul : (a + 1) * s1.length = a * s1.length + s1.length := by rw [Nat.add_mul, Nat.one_mul]
    have e2 := ihn (a + 1) xs ys (by rw [hmul]; simpa [List.drop_drop] using hx'.2) (by rw [hmul]; simpa [List.drop_drop] using hy'.2)
    rw [hmul] at e2
    rw [List.range'_succ]
    simp only [Op.eqItems, Sem.run_bind, hpx, hpy, Result.andThen_ok, e1]
    have hsplit : allSame (xs.drop (a * s1.length)) (ys.drop (a * s1.length)) = (allSame ((xs.drop (a * s1.length)).take s1.length) ((ys.drop (a * s1.length)).take s1.length) && allSame (xs.drop (a * s1.length + s1.length)) (ys.drop (a * s1.length + s1.length))) := by
      conv => lhs; rw [← List.take_append_drop s1.length (xs.drop (a * s1.length)), ← List.take_append_drop s1.length (ys.drop (a * s1.length))]
      rw [allSame_append _ _ _ _ (by simp; omega), List.drop_drop, List.drop_drop]
    rw [hsplit]
    cases hb : allSame ((xs.drop (a * s1.length)).take s1.length) ((ys.drop (a * s1.length)).take s1.length) with
    | true => simp [e2]
    | false => simp

theorem equalIn_run {P : Program} {w : World} : ∀ (d : Nat) (t : TypeId) (sh : List Sc) (ds : TypeDesc), eqShape P d t = some sh → P.underlying t = some ds → ∀ xs ys, Conf sh xs → Conf sh ys →
    (Op.equalIn d t (ofCells (descAgg ds) xs) (ofCells (descAgg ds) ys)).run P w = .ok (allSame xs ys) w := by
  intro d
  induction d with
  | zero => intro t sh ds h; cases h
  | succ d ih =>
    intro t sh ds h hu xs ys hx hy
    have hsc : ∀ c, sh = [c] → ∃ x y, xs = [x] ∧ ys = [y] ∧ scOk c x = true ∧ scOk c y = true := by
      intro c hc
      subst hc
      obtain ⟨hlx, hcx⟩ := hx
      obtain ⟨hly, hcy⟩ := hy
      obtain ⟨x, rfl⟩ := List.length_eq_one_iff.1 hlx
      obtain ⟨y, rfl⟩ := List.length_eq_one_iff.1 hly
      exact ⟨x, y, rfl, rfl, hcx 0 c rfl, hcy 0 c rfl⟩
    simp only [eqShape, hu] at h
    cases ds <;> simp only [reduceCtorEq, Option.some.injEq] at h
    · obtain ⟨x, y, rfl, rfl, h1, h2⟩ := hsc _ h.symm
      cases x <;> simp only [scOk, Bool.false_eq_true] at h1
      cases y <;> simp only [scOk, Bool.false_eq_true] at h2
      simp [ofCells, descAgg, allSame, sameV, Op.equalIn, run_underlying' hu]
    · obtain ⟨x, y, rfl, rfl, h1, h2⟩ := hsc _ h.symm
      cases x <;> simp only [scOk, Bool.false_eq_true, decide_eq_true_eq] at h1
      cases y <;> simp only [scOk, Bool.false_eq_true, decide_eq_true_eq] at h2
      subst h1; subst h2
      simp [ofCells, descAgg, allSame, sameV, Op.equalIn, run_underlying' hu]
    · obtain ⟨x, y, rfl, rfl, h1, h2⟩ := hsc _ h.symm
      cases x <;> simp only [scOk, Bool.false_eq_true] at h1
      cases y <;> simp only [scOk, Bool.false_eq_true] at h2
      simp [ofCells, descAgg, allSame, sameV, Op.equalIn, run_underlying' hu, beq_toListBytes]
    · rename_i n e
      cases hg : eqShape P d e with
      | none => simp [hg] at h
      | some s1 =>
        cases hue : P.underlying e with
        | none => simp [hg, hue] at h
        | some ds =>
          cases hi : P.info? e with
          | none => simp [hg, hue, hi] at h
          | some inf =>
            simp only [hg, hue, hi] at h
            split at h
            · cases h
            rename_i hsz
            simp only [not_or, Decidable.not_not] at hsz
            simp only [Option.some.injEq] at h
            subst h
            simp only [ofCells, descAgg, if_true]
            have hc : P.cellsOf e = s1.length := by rw [← hsz.1]; simp [Program.cellsOf, hi]
            rw [run_equalIn_array w d _ _ hu hi, hc, List.range_eq_range']
            have := eqItems_run (w := w) hg hue hi hsz.1 hsz.2 (fun xs ys h1 h2 => ih e s1 ds hg hue xs ys h1 h2) n 0 xs ys (by simpa using hx) (by simpa using hy)
            simpa using this
    · split at h
      · cases h
      rename_i fs hst
      simp only [ofCells, descAgg, if_true]
      have hf : P.fieldsOf t = fs := by simp [Program.fieldsOf, hu]
      rw [run_equalIn_struct w d t _ _ (by rw [hf]; exact hu) (by simpa using hst), hf]
      have := eqFields_run (w := w) ih fs.toList 0 sh h xs ys (by simpa using hx) (by simpa using hy)
      simpa using this

/-- '==' on the cells of two structs. -/
def eqCells : List Sc → List D → List D → Option Bool
  | [], [], [] => some true
  | .i k :: sh, .v (.int k1 a) :: cs, .v (.int k2 b) :: ds => if k1 = k ∧ k2 = k then (eqCells sh cs ds).map (a == b && ·) else none
  | .b :: sh, .v (.bool a) :: cs, .v (.bool b) :: ds => (eqCells sh cs ds).map (a == b && ·)
  | .s :: sh, .v (.string a) :: cs, .v (.string b) :: ds => (eqCells sh cs ds).map (a.toList == b.toList && ·)
  | _, _, _ => none

theorem Conf.nil : Conf [] [] := ⟨rfl, fun i c h => by simp at h⟩
theorem Conf.cons {c : Sc} {sh : List Sc} {x : Value} {xs : List Value} (h1 : scOk c x = true) (h : Conf sh xs) : Conf (c :: sh) (x :: xs) :=
  ⟨by simp [h.1], fun i c' hc => by
    cases i with
    | zero => simp at hc; subst hc; exact h1
    | succ i => simpa [List.getD] using h.2 i c' (by simpa using hc)⟩

theorem eqCells_step {c : Cfg} {sh : List Sc} {s0 : Sc} {cs ds : List D} {v1 v2 : Value} {r q r0 : Bool} {xs ys : List Value} (ho1 : scOk s0 v1 = true) (ho2 : scOk s0 v2 = true) (hsame : sameV v1 v2 = r0)
    (hr : eqCells sh cs ds = some q) (hq : (r0 && q) = r)
    (ih : ∀ (r : Bool) (xs ys : List Value), eqCells sh cs ds = some r → xs.length = cs.length → ys.length = ds.length →
      (∀ i d, cs[i]? = some d → c.Rep d (xs.getD i undef)) → (∀ i d, ds[i]? = some d → c.Rep d (ys.getD i undef)) → Conf sh xs ∧ Conf sh ys ∧ allSame xs ys = r)
    (hx : xs.length = (D.v v1 :: cs).length) (hy : ys.length = (D.v v2 :: ds).length)
    (hrx : ∀ i d, (D.v v1 :: cs)[i]? = some d → c.Rep d (xs.getD i undef)) (hry : ∀ i d, (D.v v2 :: ds)[i]? = some d → c.Rep d (ys.getD i undef)) :
    Conf (s0 :: sh) xs ∧ Conf (s0 :: sh) ys ∧ allSame xs ys = r := by
  cases xs with
  | nil => simp at hx
  | cons x xs =>
    cases ys with
    | nil => simp at hy
    | cons y ys =>
      have g1 := hrx 0 _ rfl
      have g2 := hry 0 _ rfl
      simp only [List.getD_cons_zero] at g1 g2
      cases g1; cases g2
      obtain ⟨a1, a2, a3⟩ := ih q xs ys hr (by simpa using hx) (by simpa using hy) (fun i d hd => by simpa [List.getD] using hrx (i + 1) d (by simpa using hd))
        (fun i d hd => by simpa [List.getD] using hry (i + 1) d (by simpa using hd))
      exact ⟨.cons ho1 a1, .cons ho2 a2, by rw [allSame, a3, hsame, hq]⟩

theorem eqCells_spec {c : Cfg} (sh : List Sc) (cs ds : List D) : ∀ (r : Bool) (xs ys : List Value), eqCells sh cs ds = some r → xs.length = cs.length → ys.length = ds.length →
    (∀ i d, cs[i]? = some d → c.Rep d (xs.getD i undef)) → (∀ i d, ds[i]? = some d → c.Rep d (ys.getD i undef)) → Conf sh xs ∧ Conf sh ys ∧ allSame xs ys = r := by
  fun_induction eqCells sh cs ds with
  | case1 =>
    intro r xs ys h hx hy _ _
    have e1 : xs = [] := List.eq_nil_of_length_eq_zero hx
    have e2 : ys = [] := List.eq_nil_of_length_eq_zero hy
    subst e1; subst e2
    simp only [Option.some.injEq] at h
    exact ⟨.nil, .nil, by rw [← h]; rfl⟩
  | case2 k sh k1 a cs k2 b ds hk ih =>
    intro r xs ys h hx hy hrx hry
    obtain ⟨rfl, rfl⟩ := hk
    cases hr : eqCells sh cs ds with
    | none => simp [hr] at h
    | some q =>
      simp only [hr, Option.map_some, Option.some.injEq] at h
      exact eqCells_step (v1 := .int _ a) (v2 := .int _ b) (r0 := a == b) (by simp [scOk]) (by simp [scOk]) rfl hr h ih hx hy hrx hry
  | case3 => intro r xs ys h; cases h
  | case4 sh a cs b ds ih =>
    intro r xs ys h hx hy hrx hry
    cases hr : eqCells sh cs ds with
    | none => simp [hr] at h
    | some q =>
      simp only [hr, Option.map_some, Option.some.injEq] at h
      exact eqCells_step (v1 := .bool a) (v2 := .bool b) (r0 := a == b) (by simp [scOk]) (by simp [scOk]) rfl hr h ih hx hy hrx hry
  | case5 sh a cs b ds ih =>
    intro r xs ys h hx hy hrx hry
    cases hr : eqCells sh cs ds with
    | none => simp [hr] at h
    | some q =>
      simp only [hr, Option.map_some, Option.some.injEq] at h
      exact eqCells_step (v1 := .string a) (v2 := .string b) (r0 := a.toList == b.toList) (by simp [scOk]) (by simp [scOk]) rfl hr h ih hx hy hrx hry
  | case6 => intro r xs ys h; cases h

/-- Operators on two abstract values. -/
def aBin (P : Program) (op : BinOp) (t : TypeId) (x y : D) (s : S) (K : D → S → Prop) : Prop :=
  match x, y with
  | .v (.int k a), .v (.int k' b) =>
    k = k' ∧ match intBin op k a b with
      | some v => K (.v v) s
      | none => False
  | .v (.bool a), .v (.bool b) =>
    match op with
    | .eql => tKind P t = 5 ∧ K (.v (.bool (a == b))) s
    | .neq => tKind P t = 5 ∧ K (.v (.bool (!(a == b)))) s
    | _ => False
  | .v (.string a), .v (.string b) =>
    match op with
    | .eql => K (.v (.bool (a.toList == b.toList))) s
    | .neq => K (.v (.bool (!(a.toList == b.toList)))) s
    | _ => False
  | .agg cs, .agg ds =>
    match eqShape P 10000 t with
    | some sh =>
      P.eqGuardType P.depth t = false ∧ (tKind P t = 7 ∨ tKind P t = 8) ∧
      match eqCells sh cs ds with
      | some r =>
        match op with
        | .eql => K (.v (.bool r)) s
        | .neq => K (.v (.bool (!r))) s
        | _ => False
      | none => False
    | none => False
  | .sl _ n _, .v (.slice none 0 0) =>
    tKind P t = 1 ∧
    match op with
    | .eql => ∀ q : Bool, (q = true → n = 0) → K (.v (.bool q)) s
    | .neq => ∀ q : Bool, (q = true → n = 0) → K (.v (.bool (!q))) s
    | _ => False
  | .v (.slice none 0 0), .v (.slice none 0 0) =>
    tKind P t = 1 ∧
    match op with
    | .eql => K (.v (.bool true)) s
    | .neq => K (.v (.bool false)) s
    | _ => False
  | .ms _ _ _ _ n, .v (.slice none 0 0) =>
    tKind P t = 1 ∧
    match op with
    | .eql => ∀ q : Bool, (q = true → n = 0) → K (.v (.bool q)) s
    | .neq => ∀ q : Bool, (q = true → n = 0) → K (.v (.bool (!q))) s
    | _ => False
  | .fn _ _, .v .nilFunc =>
    tKind P t = 4 ∧
    match op with
    | .eql => K (.v (.bool false)) s
    | .neq => K (.v (.bool true)) s
    | _ => False
  | .v (.pointer none), .v (.pointer none) =>
    tKind P t = 6 ∧
    match op with
    | .eql => K (.v (.bool true)) s
    | .neq => K (.v (.bool false)) s
    | _ => False
  | .mp _ _ _ _ _, .v (.pointer none) =>
    tKind P t = 6 ∧
    match op with
    | .eql => K (.v (.bool false)) s
    | .neq => K (.v (.bool true)) s
    | _ => False
  | _, _ => False

theorem tKind_agg {P : Program} {t : TypeId} (h : tKind P t = 7 ∨ tKind P t = 8) : ∃ d, P.underlying t = some d ∧ descAgg d = true := by
  unfold tKind at h; split at h <;> first | (exact ⟨_, ‹_›, rfl⟩) | (exact absurd h (by decide))

end Go.Abs
end
section
/-
  An abstract machine over the model, part 5: operators are sound; struct and slice literals.
-/
namespace Go.Abs
open Go

theorem rep_agg_eq {K : Nat → Prop} {β : Pl} {W : World} {cs : List D} {x : Value} (h : Abs.Rep K β W (.agg cs) x) :
    ∃ xs : List Value, x = .agg xs.toArray ∧ xs.length = cs.length ∧ (∀ y ∈ xs, y.oneCell' = true) ∧ ∀ i d, cs[i]? = some d → Abs.Rep K β W d (xs.getD i undef) := by
  cases h with
  | agg cs xs hl ho h => exact ⟨xs, rfl, hl, ho, h⟩

section equal
variable {P : Program} {t : TypeId}
theorem equalIn_bool (d : Nat) (hu : P.underlying t = some .bool) (a b : Bool) (w : World) : (Op.equalIn (d + 1) t (.bool a) (.bool b)).run P w = .ok (a == b) w := by
  simp [Op.equalIn, run_underlying' hu]
theorem equalIn_slice (d : Nat) {el : TypeId} (hu : P.underlying t = some (.slice el)) (a : Option Addr) (n cp : Nat) (w : World) : (Op.equalIn (d + 1) t (.slice a n cp) (.slice none 0 0)).run P w = .ok a.isNone w := by
  cases a <;> simp [Op.equalIn, run_underlying' hu]
theorem equalIn_func (d : Nat) {x y : Array TypeId} {z : Bool} (hu : P.underlying t = some (.func x y z)) (f : Fn) (u v : Array Value) (w : World) : (Op.equalIn (d + 1) t (.func f u v) .nilFunc).run P w = .ok false w := by
  simp [Op.equalIn, run_underlying' hu]
theorem equalIn_ptr (d : Nat) {el : TypeId} (hu : P.underlying t = some (.pointer el)) (a : Option Addr) (w : World) : (Op.equalIn (d + 1) t (.pointer a) (.pointer none)).run P w = .ok a.isNone w := by
  cases a <;> simp [Op.equalIn, run_underlying' hu]
/-- '==' and '!=' on values that are compared by their type. -/
theorem run_eq_ne {ox oy : Operand} {x y : Value} {b : Bool} {w : World} (hg : ∀ op, (eqGuard op t ox oy x y).run P w = .ok () w)
    (he : binOp .eql t x y = do pure (.bool (← Op.equal t x y))) (hn : binOp .neq t x y = do pure (.bool (!(← Op.equal t x y)))) (hq : (Op.equalIn 10000 t x y).run P w = .ok b w) :
    (do eqGuard .eql t ox oy x y; binOp .eql t x y : Sem Value).run P w = .ok (.bool b) w ∧ (do eqGuard .neq t ox oy x y; binOp .neq t x y : Sem Value).run P w = .ok (.bool !b) w := by
  have hq' : (Op.equal t x y).run P w = .ok b w := hq
  constructor
  · rw [Sem.run_bind, hg, Result.andThen_ok, he, Sem.run_bind, hq', Result.andThen_ok]; rfl
  · rw [Sem.run_bind, hg, Result.andThen_ok, hn, Sem.run_bind, hq', Result.andThen_ok]; rfl
end equal

theorem bin_fine {P : Program} {c : Cfg} {s : S} {op : BinOp} {t : TypeId} {ox oy : Operand} {d1 d2 : D} {x y : Value} {K : D → S → Prop} (h1 : c.Rep d1 x) (h2 : c.Rep d2 y) (h : aBin P op t d1 d2 s K) :
    ∃ v d, (do eqGuard op t ox oy x y; binOp op t x y : Sem Value).run P c.W = .ok v c.W ∧ c.Rep d v ∧ K d s := by
  unfold aBin at h
  split at h
  · rename_i k a k' b
    cases h1; cases h2
    obtain ⟨rfl, h⟩ := h
    split at h
    · rename_i v hv
      refine ⟨v, _, ?_, .v v, h⟩
      have hg : (eqGuard op t ox oy (.int k a) (.int k b)).run P c.W = .ok () c.W := by
        cases op <;> rfl
      rw [Sem.run_bind, hg, Result.andThen_ok, intBin_run hv]
    · exact h.elim
  · rename_i a b
    cases h1; cases h2
    split at h <;> try (exact h.elim)
    all_goals
      obtain ⟨hb, h⟩ := h
      have hu := tKind_bool hb
      have hq := run_eq_ne (P := P) (t := t) (ox := ox) (oy := oy) (x := .bool a) (y := .bool b) (w := c.W) (fun op => by cases op <;> rfl) rfl rfl (equalIn_bool 9999 hu a b c.W)
      first
        | exact ⟨_, _, hq.1, .v _, h⟩
        | exact ⟨_, _, hq.2, .v _, h⟩
  · rename_i a b
    cases h1; cases h2
    split at h <;> try (exact h.elim)
    · exact ⟨_, _, rfl, .v _, h⟩
    · exact ⟨_, _, rfl, .v _, h⟩
  · obtain ⟨xs, rfl, hl1, ho1, hr1⟩ := rep_agg_eq h1
    obtain ⟨ys, rfl, hl2, ho2, hr2⟩ := rep_agg_eq h2
    split at h <;> try (exact h.elim)
    rename_i sh hsh
    obtain ⟨hg, ha, h⟩ := h
    obtain ⟨ds, hu, hd⟩ := tKind_agg ha
    split at h <;> try (exact h.elim)
    rename_i r hr
    obtain ⟨e1, e2, e3⟩ := eqCells_spec sh _ _ r xs ys hr hl1 hl2 hr1 hr2
    have e4 := equalIn_run (P := P) (w := c.W) 10000 t sh ds hsh hu xs ys e1 e2
    rw [hd, e3] at e4
    simp only [ofCells, if_true] at e4
    have hq := run_eq_ne (P := P) (t := t) (ox := ox) (oy := oy) (x := .agg xs.toArray) (y := .agg ys.toArray) (w := c.W) (fun op => run_eqGuard_agg _ op t ox oy _ _ hg) rfl rfl e4
    split at h <;> try (exact h.elim)
    · exact ⟨_, _, hq.1, .v _, h⟩
    · exact ⟨_, _, hq.2, .v _, h⟩
  · obtain ⟨hb, h⟩ := h
    obtain ⟨el, hu⟩ := tKind_slice hb
    cases h2
    cases h1 with
    | sl k n row b off cap g hb hc hg ho hr =>
      have hq := fun a n cap => run_eq_ne (P := P) (t := t) (ox := ox) (oy := oy) (x := .slice a n cap) (y := .slice none 0 0) (w := c.W) (fun op => by cases op <;> rfl) rfl rfl (equalIn_slice 9999 hu a n cap c.W)
      split at h <;> try (exact h.elim)
      · exact ⟨_, _, (hq _ _ _).1, .v _, h false (by simp)⟩
      · exact ⟨_, _, (hq _ _ _).2, .v _, h false (by simp)⟩
    | sl0 k row a cap =>
      have hq := fun a n cap => run_eq_ne (P := P) (t := t) (ox := ox) (oy := oy) (x := .slice a n cap) (y := .slice none 0 0) (w := c.W) (fun op => by cases op <;> rfl) rfl rfl (equalIn_slice 9999 hu a n cap c.W)
      split at h <;> try (exact h.elim)
      · exact ⟨_, _, (hq _ _ _).1, .v _, h false (by simp)⟩
      · exact ⟨_, _, (hq _ _ _).2, .v _, h false (by simp)⟩
    | slnil k row =>
      have hq := run_eq_ne (P := P) (t := t) (ox := ox) (oy := oy) (x := .slice none 0 0) (y := .slice none 0 0) (w := c.W) (fun op => by cases op <;> rfl) rfl rfl (equalIn_slice 9999 hu _ _ _ c.W)
      split at h <;> try (exact h.elim)
      · exact ⟨_, _, hq.1, .v _, h true (by simp)⟩
      · exact ⟨_, _, hq.2, .v _, h true (by simp)⟩
  · obtain ⟨hb, h⟩ := h
    obtain ⟨el, hu⟩ := tKind_slice hb
    cases h1; cases h2
    have hq := run_eq_ne (P := P) (t := t) (ox := ox) (oy := oy) (x := .slice none 0 0) (y := .slice none 0 0) (w := c.W) (fun op => by cases op <;> rfl) rfl rfl (equalIn_slice 9999 hu _ _ _ c.W)
    split at h <;> try (exact h.elim)
    · exact ⟨_, _, hq.1, .v _, h⟩
    · exact ⟨_, _, hq.2, .v _, h⟩
  · obtain ⟨hb, h⟩ := h
    obtain ⟨el, hu⟩ := tKind_slice hb
    cases h2
    cases h1 with
    | ms f i k lo len b cp cap hβ h1 h2 =>
      have hq := fun a n cap => run_eq_ne (P := P) (t := t) (ox := ox) (oy := oy) (x := .slice (some a) n cap) (y := .slice none 0 0) (w := c.W) (fun op => by cases op <;> rfl) rfl rfl (equalIn_slice 9999 hu (some a) n cap c.W)
      split at h <;> try (exact h.elim)
      · exact ⟨_, _, (hq _ _ _).1, .v _, h false (by simp)⟩
      · exact ⟨_, _, (hq _ _ _).2, .v _, h false (by simp)⟩
    | msnil f i k lo =>
      have hq := run_eq_ne (P := P) (t := t) (ox := ox) (oy := oy) (x := .slice none 0 0) (y := .slice none 0 0) (w := c.W) (fun op => by cases op <;> rfl) rfl rfl (equalIn_slice 9999 hu _ _ _ c.W)
      split at h <;> try (exact h.elim)
      · exact ⟨_, _, hq.1, .v _, h true (by simp)⟩
      · exact ⟨_, _, hq.2, .v _, h true (by simp)⟩
  · obtain ⟨hb, h⟩ := h
    obtain ⟨_, _, _, hu⟩ := tKind_func hb
    cases h2
    cases h1 with
    | fn f cs xs hl hh =>
      have hq := fun f u v => run_eq_ne (P := P) (t := t) (ox := ox) (oy := oy) (x := .func f u v) (y := .nilFunc) (w := c.W) (fun op => by cases op <;> rfl) rfl rfl (equalIn_func 9999 hu f u v c.W)
      split at h <;> try (exact h.elim)
      · exact ⟨_, _, (hq _ _ _).1, .v _, h⟩
      · exact ⟨_, _, (hq _ _ _).2, .v _, h⟩
  · obtain ⟨hb, h⟩ := h
    obtain ⟨el, hu⟩ := tKind_pointer hb
    cases h1; cases h2
    have hq := run_eq_ne (P := P) (t := t) (ox := ox) (oy := oy) (x := .pointer none) (y := .pointer none) (w := c.W) (fun op => by cases op <;> rfl) rfl rfl (equalIn_ptr 9999 hu _ c.W)
    split at h <;> try (exact h.elim)
    · exact ⟨_, _, hq.1, .v _, h⟩
    · exact ⟨_, _, hq.2, .v _, h⟩
  · obtain ⟨hb, h⟩ := h
    obtain ⟨el, hu⟩ := tKind_pointer hb
    cases h2
    cases h1 with
    | mp f i k r c0 b cp hβ =>
      have hq := fun a => run_eq_ne (P := P) (t := t) (ox := ox) (oy := oy) (x := .pointer (some a)) (y := .pointer none) (w := c.W) (fun op => by cases op <;> rfl) rfl rfl (equalIn_ptr 9999 hu (some a) c.W)
      split at h <;> try (exact h.elim)
      · exact ⟨_, _, (hq _).1, .v _, h⟩
      · exact ⟨_, _, (hq _).2, .v _, h⟩
  · exact h.elim

def aUn (op : UnOp) (x : D) (s : S) (K : D → S → Prop) : Prop :=
  match op, x with
  | .not, .v (.bool b) => K (.v (.bool !b)) s
  | .neg, .v (.int k n) => K (.v (.int k (k.wrap (0 - n)))) s
  | _, _ => False

theorem un_fine {P : Program} {c : Cfg} {s : S} {op : UnOp} {d : D} {x : Value} {K : D → S → Prop} (h1 : c.Rep d x) (h : aUn op d s K) :
    ∃ v d, (Op.unary op x).run P c.W = .ok v c.W ∧ c.Rep d v ∧ K d s := by
  unfold aUn at h
  split at h
  · cases h1; exact ⟨_, _, by simp [Op.unary], .v _, h⟩
  · cases h1; exact ⟨_, _, by simp [Op.unary, Op.intArith], .v _, h⟩
  · exact h.elim

def aExtract (x : D) (i : Nat) (s : S) (K : D → S → Prop) : Prop :=
  match x with
  | .tup cs => i < cs.length ∧ K (cs.getD i .any) s
  | _ => False

theorem extract_fine {P : Program} {c : Cfg} {s : S} {d : D} {x : Value} {i : Nat} {K : D → S → Prop} (h1 : c.Rep d x) (h : aExtract d i s K) :
    ∃ v d, (Instr.extract x i).run P c.W = .ok v c.W ∧ c.Rep d v ∧ K d s := by
  unfold aExtract at h
  split at h
  · obtain ⟨hi, h⟩ := h
    cases h1 with
    | tup cs xs hl hr =>
      have hlt : i < xs.length := by rw [hl]; exact hi
      refine ⟨xs.getD i undef, _, ?_, hr i _ (by simp [List.getD, List.getElem?_eq_getElem hi]), h⟩
      simp [Instr.extract, List.getElem?_eq_getElem hlt, List.getD]
  · exact h.elim

/-- A byte of a text. -/
def aIndex (P : Program) (t : TypeId) (x i : D) (s : S) (K : D → S → Prop) : Prop :=
  match x, i with
  | .v (.string b), .v (.int _ n) => (tKind P t = 2 ∧ 0 ≤ n ∧ n < b.size) ∧ K (.v (.int .u8 ((b.data.getD n.toNat 0).toNat : Int))) s
  | _, _ => False

theorem index_fine {P : Program} {c : Cfg} {s : S} {t : TypeId} {d i : D} {x v : Value} {K : D → S → Prop} (h1 : c.Rep d x) (h2 : c.Rep i v) (h : aIndex P t d i s K) :
    ∃ v' d', (Instr.index t x v).run P c.W = .ok v' c.W ∧ c.Rep d' v' ∧ K d' s := by
  unfold aIndex at h
  split at h <;> try (exact h.elim)
  rename_i b k n
  obtain ⟨⟨hk, h0, hn⟩, h⟩ := h
  cases h1; cases h2
  have hu := tKind_string hk
  refine ⟨_, _, ?_, .v _, h⟩
  have hlt : n.toNat < b.data.size := by
    have : (b.size : Nat) = b.data.size := rfl
    omega
  have hb : b[n.toNat]? = some (b.data[n.toNat]) := by
    rw [getElem?_pos b n.toNat hlt]; rfl
  have hg : b.data.getD n.toNat 0 = b.data[n.toNat] := by
    unfold Array.getD; rw [dif_pos hlt]; rfl
  simp [Instr.index, asIntOf, run_underlying' hu, h0, hb, hg]

/-- 'ds' laid over 'cs' from cell n on. -/
def over : List D → List D → List D
  | d :: ds, _ :: cs => d :: over ds cs
  | _, cs => cs
def splice : Nat → List D → List D → List D
  | 0, cs, ds => over ds cs
  | n + 1, c :: cs, ds => c :: splice n cs ds
  | _ + 1, [], _ => []

theorem over_get : ∀ (ds cs : List D) (j : Nat), ds.length ≤ cs.length → (over ds cs)[j]? = if j < ds.length then ds[j]? else cs[j]?
  | [], cs, j, _ => by simp [over]
  | d :: ds, [], j, h => by simp at h
  | d :: ds, c :: cs, 0, _ => by simp [over]
  | d :: ds, c :: cs, j + 1, h => by
    simp only [over, List.getElem?_cons_succ, over_get ds cs j (by simpa using h), List.length_cons]
    by_cases hj : j < ds.length <;> simp [hj]
theorem over_length : ∀ (ds cs : List D), ds.length ≤ cs.length → (over ds cs).length = cs.length
  | [], cs, _ => by simp [over]
  | d :: ds, [], h => by simp at h
  | d :: ds, c :: cs, h => by simp [over, over_length ds cs (by simpa using h)]
theorem splice_get : ∀ (n : Nat) (cs ds : List D) (j : Nat), n + ds.length ≤ cs.length → (splice n cs ds)[j]? = if n ≤ j ∧ j < n + ds.length then ds[j - n]? else cs[j]?
  | 0, cs, ds, j, h => by simp [splice, over_get ds cs j (by omega)]
  | n + 1, [], ds, j, h => by simp at h
  | n + 1, c :: cs, ds, 0, h => by simp [splice]
  | n + 1, c :: cs, ds, j + 1, h => by
    simp only [splice, List.getElem?_cons_succ, splice_get n cs ds j (by simp at h; omega)]
    by_cases hj : n ≤ j ∧ j < n + ds.length
    · rw [if_pos hj, if_pos (by omega)]; congr 1; omega
    · rw [if_neg hj, if_neg (by omega)]
theorem splice_length : ∀ (n : Nat) (cs ds : List D), n + ds.length ≤ cs.length → (splice n cs ds).length = cs.length
  | 0, cs, ds, h => by simp [splice, over_length ds cs (by omega)]
  | n + 1, [], ds, h => by simp at h
  | n + 1, c :: cs, ds, h => by simp [splice, splice_length n cs ds (by simp at h; omega)]

theorem fold_set (off : Nat) : ∀ (vs : List Value) (i : Nat) (cells : Array Value),
    ((vs.zipIdx i).foldl (fun cs (x : Value × Nat) => cs.setIfInBounds (off + x.2) x.1) cells).size = cells.size ∧
    ∀ j, off + i + vs.length ≤ cells.size → ((vs.zipIdx i).foldl (fun cs (x : Value × Nat) => cs.setIfInBounds (off + x.2) x.1) cells)[j]? = if off + i ≤ j ∧ j < off + i + vs.length then vs[j - (off + i)]? else cells[j]?
  | [], i, cells => ⟨by simp, fun j _ => by
      simp only [List.zipIdx_nil, List.foldl_nil, List.length_nil]
      rw [if_neg (by omega)]⟩
  | v :: vs, i, cells => by
    have ih := fold_set off vs (i + 1) (cells.setIfInBounds (off + i) v)
    simp only [List.zipIdx_cons, List.foldl_cons]
    refine ⟨by rw [ih.1]; simp, fun j hj => ?_⟩
    simp only [List.length_cons] at hj
    rw [ih.2 j (by rw [Array.size_setIfInBounds]; omega)]
    simp only [List.length_cons]
    by_cases h1 : off + (i + 1) ≤ j ∧ j < off + (i + 1) + vs.length
    · rw [if_pos h1, if_pos (by omega)]
      rw [show j - (off + i) = (j - (off + (i + 1))) + 1 by omega, List.getElem?_cons_succ]
    · rw [if_neg h1]
      by_cases h2 : j = off + i
      · subst h2
        rw [if_pos (by omega), Nat.sub_self]
        have : off + i < cells.size := by omega
        simp [this]
      · rw [if_neg (by omega), Array.getElem?_setIfInBounds_ne (by omega)]

/-- One part laid into the cells of a literal. -/
theorem fill_one {c : Cfg} {cs ds : List D} {xs vs : List Value} (h : CellsRep c cs xs) (hv : CellsRep c ds vs) (off : Nat) (hb : off + ds.length ≤ cs.length) :
    ∃ xs' : List Value, (vs.toArray.zipIdx.foldl (fun cs (x : Value × Nat) => cs.setIfInBounds (off + x.2) x.1) xs.toArray) = xs'.toArray ∧ CellsRep c (splice off cs ds) xs' := by
  have hf := fold_set off vs 0 xs.toArray
  have e : (vs.toArray.zipIdx.foldl (fun cs (x : Value × Nat) => cs.setIfInBounds (off + x.2) x.1) xs.toArray) = ((vs.zipIdx 0).foldl (fun cs (x : Value × Nat) => cs.setIfInBounds (off + x.2) x.1) xs.toArray) := by
    rw [← Array.foldl_toList]; simp
  rw [e]
  generalize hA : ((vs.zipIdx 0).foldl (fun cs (x : Value × Nat) => cs.setIfInBounds (off + x.2) x.1) xs.toArray) = A at hf ⊢
  obtain ⟨h1, h2⟩ := hf
  have hb' : off + 0 + vs.length ≤ xs.toArray.size := by simp [h.len, hv.len]; omega
  refine ⟨A.toList, by simp, ?_, ?_, ?_⟩
  · rw [splice_length _ _ _ hb]
    simp only [Array.length_toList]
    rw [h1]; simp [h.len]
  · intro x hx
    obtain ⟨j, hj, hxj⟩ := List.getElem_of_mem hx
    have hj' := h2 j hb'
    simp only [Array.length_toList] at hj
    rw [Array.getElem?_eq_getElem hj] at hj'
    have hxe : A[j] = x := by simpa using hxj
    rw [hxe] at hj'
    split at hj'
    · exact hv.one x (List.mem_of_getElem? hj'.symm)
    · exact h.one x (List.mem_of_getElem? (by simpa using hj'.symm))
  · intro j d hd
    rw [splice_get _ _ _ _ hb] at hd
    have hj' := h2 j hb'
    rw [List.getD_eq_getElem?_getD, Array.getElem?_toList, hj']
    by_cases hc : off ≤ j ∧ j < off + ds.length
    · rw [if_pos hc] at hd
      rw [if_pos (by rw [hv.len]; omega)]
      have := hv.rep _ _ hd
      simpa [List.getD] using this
    · rw [if_neg hc] at hd
      rw [if_neg (by rw [hv.len]; omega)]
      have := h.rep _ _ hd
      simpa [List.getD] using this

/-- Where the parts of a struct or an array literal go: place and size. -/
def tPlace (P : Program) (t : TypeId) (i : Nat) : Option (Nat × Nat) :=
  match P.underlying t with
  | some (.struct fs) =>
    if fs.toList.all (fun f => (P.info? f.type).isSome) then (fs[i]?).bind fun f => (P.info? f.type).map fun inf => (f.offset, inf.size) else none
  | some (.array _ el) => (P.info? el).map fun inf => (i * inf.size, inf.size)
  | _ => none

def fillD (P : Program) (t : TypeId) : List D → List (Nat × D) → Option (List D)
  | cs, [] => some cs
  | cs, (i, d) :: rest =>
    match tPlace P t i, d.cells? with
    | some (off, size), some ds => if ds.length = size ∧ off + ds.length ≤ cs.length then fillD P t (splice off cs ds) rest else none
    | _, _ => none

def aBuild (P : Program) (t : TypeId) (parts : List (Nat × D)) (s : S) (K : D → S → Prop) : Prop :=
  match tZ P t with
  | some zs =>
    match fillD P t (zs.map D.v) parts with
    | some cs => K (.agg cs) s
    | none => False
  | none => False

theorem fill_fine {P : Program} {c : Cfg} {t : TypeId} (place : Nat → Option (Nat × Nat)) (hp : ∀ i x, tPlace P t i = some x → place i = some x) :
    ∀ (parts : List (Nat × D)) (vals : List (Nat × Value)) (cs cs' : List D) (xs : List Value), fillD P t cs parts = some cs' → CellsRep c cs xs →
      vals.length = parts.length → (∀ (j : Nat) (p : Nat × D) (q : Nat × Value), parts[j]? = some p → vals[j]? = some q → q.1 = p.1 ∧ c.Rep p.2 q.2) →
      ∃ xs' : List Value, Instr.fill place xs.toArray vals = some xs'.toArray ∧ CellsRep c cs' xs'
  | [], vals, cs, cs', xs, h, hx, hl, _ => by
    have : vals = [] := List.eq_nil_of_length_eq_zero hl
    subst this
    simp only [fillD, Option.some.injEq] at h
    subst h
    exact ⟨xs, rfl, hx⟩
  | (i, d) :: parts, [], cs, cs', xs, h, hx, hl, _ => by simp at hl
  | (i, d) :: parts, (i', v) :: vals, cs, cs', xs, h, hx, hl, hr => by
    obtain ⟨h1, h2⟩ := hr 0 _ _ rfl rfl
    simp only at h1 h2
    subst h1
    unfold fillD at h
    split at h
    · rename_i off size ds hpl hds
      split at h
      · rename_i hsz
        obtain ⟨hsz, hb⟩ := hsz
        obtain ⟨vs, hvs, hv⟩ := cells_rep hds h2
        obtain ⟨xs1, e1, e2⟩ := fill_one hx hv off hb
        obtain ⟨xs2, e3, e4⟩ := fill_fine place hp parts vals _ _ xs1 h e2 (by simpa using hl) (fun j p q hj hq => hr (j + 1) p q (by simpa using hj) (by simpa using hq))
        refine ⟨xs2, ?_, e4⟩
        unfold Instr.fill
        simp only [hp _ _ hpl, hvs]
        rw [if_neg]
        · rw [← e3, ← e1]
        · simp only [List.size_toArray, hv.len, hx.len, hsz, ne_eq, not_true_eq_false, decide_false, Bool.false_or, decide_eq_true_eq]
          omega
      · cases h
    · cases h

theorem mapM_run {α β : Type} {P : Program} {w : World} {f : α → Sem β} {g : α → β} : ∀ (l : List α), (∀ x ∈ l, (f x).run P w = .ok (g x) w) → (l.mapM f).run P w = .ok (l.map g) w
  | [], _ => by simp
  | x :: l, h => by
    simp only [List.mapM_cons, Sem.run_bind, h x (by simp), Result.andThen_ok, mapM_run l (fun y hy => h y (by simp [hy])), Sem.run_pure, List.map_cons]

theorem build_fine {P : Program} {c : Cfg} {s : S} {t : TypeId} {parts : List (Nat × D)} {vals : Array (Nat × Value)} {K : D → S → Prop} (hl : vals.toList.length = parts.length)
    (hr : ∀ (j : Nat) (p : Nat × D) (q : Nat × Value), parts[j]? = some p → vals.toList[j]? = some q → q.1 = p.1 ∧ c.Rep p.2 q.2) (h : aBuild P t parts s K) (hne : parts ≠ [] ∨ (tPlace P t 0).isSome = true) :
    ∃ v d, (Instr.build t vals).run P c.W = .ok v c.W ∧ c.Rep d v ∧ K d s := by
  unfold aBuild at h
  split at h <;> try (exact h.elim)
  rename_i zs hz
  split at h <;> try (exact h.elim)
  rename_i cs' hcs
  obtain ⟨z, inf, hi, hzero, hzc, h1⟩ := tZ_some hz
  have hzero' : ∀ w, (zeroValue t).run P w = .ok z w := fun w => by simp [zeroValue, run_typeInfo' hi, hzero]
  have hpl : ∃ i x, tPlace P t i = some x := by
    cases parts with
    | nil => exact ⟨0, _, Option.eq_some_of_isSome (hne.resolve_left (by simp))⟩
    | cons p parts =>
      unfold fillD at hcs
      split at hcs
      · rename_i off size ds hpl hds; exact ⟨_, _, hpl⟩
      · cases hcs
  obtain ⟨i0, x0, hpl⟩ := hpl
  cases hu : P.underlying t with
  | none => simp [tPlace, hu] at hpl
  | some ds =>
    cases ds <;> (try (simp [tPlace, hu] at hpl; done))
    rotate_left
    · -- a struct
      rename_i fs
      have hall : fs.toList.all (fun f => (P.info? f.type).isSome) = true := by
        cases hh : fs.toList.all (fun f => (P.info? f.type).isSome) with
        | true => rfl
        | false => simp only [tPlace, hu, hh, Bool.false_eq_true, if_false, reduceCtorEq] at hpl
      have hmap : ∀ w, ((fs.mapM fun f => (do pure (f.offset, ← sizeOf f.type) : Sem (Nat × Nat)))).run P w = .ok (fs.toList.map fun f => (f.offset, ((P.info? f.type).map (·.size)).getD 0)).toArray w := by
        intro w
        rw [Array.mapM_eq_mapM_toList, Sem.run_map, mapM_run (g := fun f => (f.offset, ((P.info? f.type).map (·.size)).getD 0)) fs.toList]
        · rfl
        · intro f hf
          have := List.all_eq_true.1 hall f hf
          cases hfi : P.info? f.type with
          | none => simp [hfi] at this
          | some inf => simp [run_sizeOf' hfi]
      obtain ⟨xs', e1, e2⟩ := fill_fine (c := c) (P := P) (t := t) ((fs.toList.map fun f => (f.offset, ((P.info? f.type).map (·.size)).getD 0)).toArray[·]?)
        (fun i x hx => by
          simp only [tPlace, hu, hall, if_true] at hx
          simp only [List.getElem?_toArray, List.getElem?_map, Array.getElem?_toList]
          cases hf : fs[i]? with
          | none => simp [hf] at hx
          | some f =>
            simp only [hf, Option.bind_some] at hx
            cases hfi : P.info? f.type with
            | none => simp [hfi] at hx
            | some inf => simpa [hfi] using hx)
        parts vals.toList _ _ zs hcs (CellsRep.lit c h1) hl hr
      refine ⟨.agg xs'.toArray, .agg cs', ?_, .agg cs' xs' e2.len e2.one e2.rep, h⟩
      simp only [Instr.build, Sem.run_bind, hzero', Result.andThen_ok, run_underlying' hu, hmap, hzc, e1, Sem.run_pure]
    · -- an array
      rename_i n el
      cases hel : P.info? el with
      | none => simp [tPlace, hu, hel] at hpl
      | some inf =>
        obtain ⟨xs', e1, e2⟩ := fill_fine (c := c) (P := P) (t := t) (fun i => some (i * inf.size, inf.size))
          (fun i x hx => by simpa [tPlace, hu, hel] using hx)
          parts vals.toList _ _ zs hcs (CellsRep.lit c h1) hl hr
        refine ⟨.agg xs'.toArray, .agg cs', ?_, .agg cs' xs' e2.len e2.one e2.rep, h⟩
        simp only [Instr.build, Sem.run_bind, hzero', Result.andThen_ok, run_underlying' hu, run_sizeOf' hel, hzc, e1, Sem.run_pure]

end Go.Abs
end
section
/-
  An abstract machine over the model, part 6: lengths, conversions, and slices that the call itself makes.
-/
namespace Go.Abs
open Go

def aLen (P : Program) (t : TypeId) (x : D) (na nt : Nat) (s : S) (K : D → S → Prop) : Prop :=
  (0 < na ∧ 0 < nt) ∧
  match x with
  | .sl _ n _ => tKind P t = 1 ∧ K (.v (.int .i64 n)) s
  | .ms _ _ _ _ n => tKind P t = 1 ∧ K (.v (.int .i64 n)) s
  | .v (.slice none 0 0) => tKind P t = 1 ∧ K (.v (.int .i64 0)) s
  | .v (.string b) => tKind P t = 2 ∧ K (.v (.int .i64 b.size)) s
  | _ => False

theorem len_fine {P : Program} {c : Cfg} {s : S} {ts : Array TypeId} {ty : TypeId} {d : D} {xs : Array Value} {K : D → S → Prop} (hp : c.Rep d (xs.getD 0 undef))
    (h : aLen P (ts.getD 0 0) d xs.size ts.size s K) : ∃ v d', (Builtin.len_ ts ty xs).run P c.W = .ok v c.W ∧ c.Rep d' v ∧ K d' s := by
  obtain ⟨⟨h1, h2⟩, h⟩ := h
  have ex : xs[0]? = some (xs.getD 0 undef) := by simp [Array.getD, h1]
  have et : ts[0]? = some (ts.getD 0 0) := by simp [Array.getD, h2]
  generalize xs.getD 0 undef = x at hp ex
  generalize ts.getD 0 0 = tt at h et
  split at h
  · obtain ⟨hk, h⟩ := h
    obtain ⟨el, hu⟩ := tKind_slice hk
    cases hp <;> (refine ⟨_, _, ?_, .v _, h⟩; simp [Builtin.len_, ex, et, run_underlying' hu, goInt])
  · obtain ⟨hk, h⟩ := h
    obtain ⟨el, hu⟩ := tKind_slice hk
    cases hp <;> (refine ⟨_, _, ?_, .v _, h⟩; simp [Builtin.len_, ex, et, run_underlying' hu, goInt])
  · obtain ⟨hk, h⟩ := h
    obtain ⟨el, hu⟩ := tKind_slice hk
    cases hp
    refine ⟨_, _, ?_, .v _, h⟩
    simp [Builtin.len_, ex, et, run_underlying' hu, goInt]
  · obtain ⟨hk, h⟩ := h
    have hu := tKind_string hk
    cases hp
    refine ⟨_, _, ?_, .v _, h⟩
    simp [Builtin.len_, ex, et, run_underlying' hu, goInt]
  · exact h.elim

/-- The greater or the less of two integers. -/
def aTwo (mx : Bool) (x y : D) (s : S) (K : D → S → Prop) : Prop :=
  match x, y with
  | .v (.int k a), .v (.int _ b) => K (.v (.int k (cond mx (max a b) (min a b)))) s
  | _, _ => False
theorem max_fine {P : Program} {c : Cfg} {s : S} {ts : Array TypeId} {ty : TypeId} {d d' : D} {x y : Value} {K : D → S → Prop} (hx : c.Rep d x) (hy : c.Rep d' y) (h : aTwo true d d' s K) :
    ∃ v d', (Builtin.max_ ts ty #[x, y]).run P c.W = .ok v c.W ∧ c.Rep d' v ∧ K d' s := by
  unfold aTwo at h
  split at h
  · rename_i k a k' b
    cases hx; cases hy
    refine ⟨.int k (max a b), _, ?_, .v _, h⟩
    rw [show max a b = (if b > a then b else a) by split <;> omega]
    simp [Builtin.max_, Builtin.max2]
  · exact h.elim
theorem min_fine {P : Program} {c : Cfg} {s : S} {ts : Array TypeId} {ty : TypeId} {d d' : D} {x y : Value} {K : D → S → Prop} (hx : c.Rep d x) (hy : c.Rep d' y) (h : aTwo false d d' s K) :
    ∃ v d', (Builtin.min_ ts ty #[x, y]).run P c.W = .ok v c.W ∧ c.Rep d' v ∧ K d' s := by
  unfold aTwo at h
  split at h
  · rename_i k a k' b
    cases hx; cases hy
    refine ⟨.int k (min a b), _, ?_, .v _, h⟩
    rw [show min a b = (if b < a then b else a) by split <;> omega]
    simp [Builtin.min_, Builtin.min2]
  · exact h.elim

/-- The kind of an integer type, as a number. -/
def tInt (P : Program) (t : TypeId) : Option IntKind :=
  match P.underlying t with
  | some (.int k) => some k
  | _ => none

theorem tInt_some {P : Program} {t : TypeId} {k : IntKind} (h : tInt P t = some k) : P.underlying t = some (.int k) := by
  unfold tInt at h
  split at h
  · rename_i hu; simp only [Option.some.injEq] at h; subst h; exact hu
  · cases h

def aConv (P : Program) (src dst : TypeId) (x : D) (s : S) (K : D → S → Prop) : Prop :=
  match tInt P src, tInt P dst, x with
  | some _, some k, .v (.int _ n) => K (.v (.int k (k.wrap n))) s
  | _, _, _ => False

theorem conv_fine {P : Program} {c : Cfg} {s : S} {src dst : TypeId} {d : D} {x : Value} {K : D → S → Prop} (hp : c.Rep d x) (h : aConv P src dst d s K) :
    ∃ v d', (convert src dst x).run P c.W = .ok v c.W ∧ c.Rep d' v ∧ K d' s := by
  unfold aConv at h
  split at h
  · rename_i h1 h2
    cases hp
    have hu1 := tInt_some h1
    have hu2 := tInt_some h2
    exact ⟨_, _, by simp [convert, run_underlying' hu1, run_underlying' hu2, Conv.intToInt], .v _, h⟩
  · exact h.elim

/-- The element of a slice type: its number, its cells, its bytes, its zero value's cells. -/
structure ElemInfo where
  e : TypeId
  k : Nat
  by_ : Nat
  zs : List Value
def tEl (P : Program) (t : TypeId) : Option ElemInfo :=
  match P.underlying t with
  | some (.slice el) =>
    match P.info? el, tZ P el with
    | some i, some zs => if i.size = zs.length ∧ 0 < i.size then some ⟨el, i.size, i.bytes, zs⟩ else none
    | _, _ => none
  | _ => none

theorem tEl_some {P : Program} {t : TypeId} {x : ElemInfo} (h : tEl P t = some x) :
    ∃ i z, P.underlying t = some (.slice x.e) ∧ P.info? x.e = some i ∧ i.size = x.k ∧ i.bytes = x.by_ ∧ i.zero = some z ∧ z.cells = x.zs.toArray ∧ x.zs.length = x.k ∧ 0 < x.k ∧ ∀ v ∈ x.zs, v.oneCell' = true := by
  unfold tEl at h
  split at h
  · rename_i el hu
    split at h
    · rename_i i zs hi hz
      split at h
      · rename_i hs
        simp only [Option.some.injEq] at h
        subst h
        obtain ⟨z, i', hi', h1, h2, h3⟩ := tZ_some hz
        rw [hi] at hi'; cases hi'
        exact ⟨i, z, hu, hi, rfl, rfl, h1, h2, hs.1.symm, hs.2, h3⟩
      · cases h
    · cases h
  · cases h

/-- A slice literal's rows. -/
def litCell (zs : List Value) : List (Nat × List D) → Nat → Nat → D
  | [], _, c => .v (zs.getD c undef)
  | (i, ds) :: rest, r, c => if r = i then ds.getD c .any else litCell zs rest r c

def partsCells (k : Nat) : List (Nat × D) → Option (List (Nat × List D))
  | [] => some []
  | (i, d) :: rest =>
    match d.cells?, partsCells k rest with
    | some ds, some r => if ds.length = k then some ((i, ds) :: r) else none
    | _, _ => none

def aBuildSlice (P : Program) (t : TypeId) (len : Nat) (parts : List (Nat × D)) (s : S) (K : D → S → Prop) : Prop :=
  match tEl P t with
  | some x =>
    match partsCells x.k parts with
    | some ps => (len * x.k ≤ 16777216 ∧ parts.all (fun p => p.1 < len) = true ∧ (ps.map (·.1)).Nodup) ∧ K (.ms s.nx 0 x.k 0 len) (s.push (.blk x.k len x.e (litCell x.zs ps)))
    | none => False
  | none => False

/-- The cells of a slice literal, in a row. -/
structure RowsRep (c : Cfg) (k n : Nat) (cell : Nat → Nat → D) (arr : Array Value) : Prop where
  size : arr.size = n * k
  one : ∀ j, j < n * k → (arr.getD j undef).oneCell' = true
  rep : ∀ r j, r < n → j < k → c.Rep (cell r j) (arr.getD (r * k + j) undef)

theorem getD_size_one {arr : Array Value} {j : Nat} (h : ¬ j < arr.size) : arr.getD j undef = undef := by
  simp [Array.getD, h]

theorem rows_fill {c : Cfg} {k n : Nat} : ∀ (parts : List (Nat × D)) (vals : List (Nat × Value)) (ps : List (Nat × List D)) (base : Nat → Nat → D) (arr : Array Value),
    partsCells k parts = some ps → parts.all (fun p => p.1 < n) = true → (ps.map (·.1)).Nodup → RowsRep c k n base arr → vals.length = parts.length →
    (∀ (j : Nat) (p : Nat × D) (q : Nat × Value), parts[j]? = some p → vals[j]? = some q → q.1 = p.1 ∧ c.Rep p.2 q.2) →
    ∃ arr', Instr.fill (fun i => some (i * k, k)) arr vals = some arr' ∧ RowsRep c k n (fun r j => match ps.find? (fun p => p.1 == r) with | some p => p.2.getD j .any | none => base r j) arr'
  | [], vals, ps, base, arr, hp, _, _, hb, hl, _ => by
    have : vals = [] := List.eq_nil_of_length_eq_zero hl
    subst this
    simp only [partsCells, Option.some.injEq] at hp
    subst hp
    exact ⟨arr, rfl, hb⟩
  | (i, d) :: parts, [], ps, base, arr, hp, _, _, hb, hl, _ => by simp at hl
  | (i, d) :: parts, (i', v) :: vals, ps, base, arr, hp, hin, hnd, hb, hl, hr => by
    obtain ⟨h1, h2⟩ := hr 0 _ _ rfl rfl
    simp only at h1 h2
    subst h1
    unfold partsCells at hp
    split at hp
    · rename_i ds r hds hrest
      split at hp
      · rename_i hk
        simp only [Option.some.injEq] at hp
        subst hp
        obtain ⟨vs, hvs, hv⟩ := cells_rep hds h2
        simp only [List.all_cons, Bool.and_eq_true, decide_eq_true_eq] at hin
        have hik : i' * k + k ≤ arr.size := by
          rw [hb.size]
          calc i' * k + k = (i' + 1) * k := by rw [Nat.add_mul, Nat.one_mul]
            _ ≤ n * k := Nat.mul_le_mul_right k hin.1
        have hf := fold_set (i' * k) vs 0 arr
        generalize hA : ((vs.zipIdx 0).foldl (fun cs (x : Value × Nat) => cs.setIfInBounds (i' * k + x.2) x.1) arr) = A at hf
        obtain ⟨hf1, hf2⟩ := hf
        have hlen : vs.length = k := by rw [hv.len, hk]
        have hget : ∀ j, A.getD j undef = if i' * k ≤ j ∧ j < i' * k + k then vs.getD (j - i' * k) undef else arr.getD j undef := by
          intro j
          have := hf2 j (by omega)
          simp only [Nat.add_zero, hlen] at this
          rw [Array.getD_eq_getD_getElem?, this]
          split <;> simp [List.getD, Array.getD_eq_getD_getElem?]
        have hrows : RowsRep c k n (fun r j => if r = i' then ds.getD j .any else base r j) A := by
          refine ⟨by rw [hf1, hb.size], fun j hj => ?_, fun r j hr' hj => ?_⟩
          · rw [hget]
            split
            · apply hv.one
              have : j - i' * k < vs.length := by omega
              simp [List.getD, List.getElem?_eq_getElem this]
            · exact hb.one j hj
          · rw [hget]
            by_cases he : r = i'
            · subst he
              have hin1 : r * k ≤ r * k + j ∧ r * k + j < r * k + k := by omega
              rw [if_pos hin1]
              simp only [if_pos]
              have hj' : j < ds.length := by omega
              have := hv.rep j (ds.getD j .any) (by simp [List.getD, List.getElem?_eq_getElem hj'])
              rwa [show r * k + j - r * k = j by omega]
            · have hout : ¬ (i' * k ≤ r * k + j ∧ r * k + j < i' * k + k) := by
                intro ⟨g1, g2⟩
                have : r * k + j = i' * k + (r * k + j - i' * k) := by omega
                exact he (idx_eq hj (by omega) this).1
              rw [if_neg hout]
              simp only [if_neg he]
              exact hb.rep r j hr' hj
        simp only [List.map_cons, List.nodup_cons] at hnd
        obtain ⟨arr', e1, e2⟩ := rows_fill parts vals r (fun r j => if r = i' then ds.getD j .any else base r j) A hrest hin.2 hnd.2 hrows (by simpa using hl) (fun j p q hj hq => hr (j + 1) p q (by simpa using hj) (by simpa using hq))
        refine ⟨arr', ?_, e2.size, e2.one, fun r' j hr' hj => ?_⟩
        · unfold Instr.fill
          simp only [hvs]
          rw [if_neg]
          · rw [← e1, ← hA]
            congr 1
            rw [← Array.foldl_toList]; simp
          · simp only [List.size_toArray, hlen, ne_eq, not_true_eq_false, decide_false, Bool.false_or, decide_eq_true_eq]
            omega
        · have := e2.rep r' j hr' hj
          simp only [List.find?_cons]
          by_cases he : i' = r'
          · subst he
            have hnone : r.find? (fun p => p.1 == i') = none := by
              rw [List.find?_eq_none]
              intro p hp hpe
              simp only [beq_iff_eq] at hpe
              exact hnd.1 (hpe ▸ List.mem_map_of_mem hp)
            simp only [hnone, if_pos] at this
            simpa using this
          · have hne : (i' == r') = false := by simpa using he
            simp only [hne]
            cases hfi : r.find? (fun p => p.1 == r') with
            | some p => simpa [hfi] using this
            | none => simpa [hfi, Ne.symm he] using this
      · cases hp
    · cases hp

theorem litCell_find (zs : List Value) : ∀ (ps : List (Nat × List D)) (r c : Nat), litCell zs ps r c = match ps.find? (fun p => p.1 == r) with | some p => p.2.getD c .any | none => .v (zs.getD c undef)
  | [], r, c => rfl
  | (i, ds) :: rest, r, c => by
    simp only [litCell, List.find?_cons]
    by_cases he : r = i
    · subst he; simp
    · have : (i == r) = false := by simpa using Ne.symm he
      simp [he, this, litCell_find zs rest r c]

theorem zeros_rows (c : Cfg) {zs : List Value} {k : Nat} (hk : zs.length = k) (h0 : 0 < k) (h1 : ∀ v ∈ zs, v.oneCell' = true) (n : Nat) (arr : Array Value)
    (hs : arr.size = n * k) (ha : ∀ j, j < n * k → arr.getD j undef = zs.getD (j % k) undef) : RowsRep c k n (fun _ j => .v (zs.getD j undef)) arr where
  size := hs
  one j hj := by
    rw [ha j hj]
    apply h1
    have : j % k < zs.length := by rw [hk]; exact Nat.mod_lt _ h0
    simp [List.getD, List.getElem?_eq_getElem this]
  rep r j hr hj := by
    rw [ha _ (idx_lt hr hj)]
    have : (r * k + j) % k = j := by rw [Nat.mul_comm, Nat.mul_add_mod, Nat.mod_eq_of_lt hj]
    rw [this]; exact .v _

theorem madeCells_get (zs : List Value) {k : Nat} (hk : zs.length = k) (h0 : 0 < k) (n j : Nat) (hj : j < n) : ((Array.range n).map (zs.toArray[· % zs.toArray.size]!)).getD j undef = zs.getD (j % k) undef := by
  have : j % k < zs.length := by rw [hk]; exact Nat.mod_lt _ h0
  simp [Array.getD, hj, hk, List.getD, List.getElem?_eq_getElem this]

/-- A new object whose rows are known. -/
theorem newRows_obj {c : Cfg} {s : S} (hok : c.Ok s) (t : TypeId) {k n cp : Nat} {cell : Nat → Nat → D} {arr : Array Value} (hs : arr.size = cp * k) (hn : n ≤ cp)
    (h : ∀ r j, r < n → j < k → (arr.getD (r * k + j) undef).oneCell' = true ∧ c.Rep (cell r j) (arr.getD (r * k + j) undef)) :
    Ext c (c.push s (.cells arr t) cp) ∧ (c.push s (.cells arr t) cp).Ok (s.push (.blk k n t cell)) ∧
    ∀ len cap, len ≤ cap → cap ≤ cp → (c.push s (.cells arr t) cp).Rep (.ms s.nx 0 k 0 len) (.slice (some ⟨c.W.heap.size, 0, none⟩) len cap) := by
  refine ⟨push_ext hok _ _, push_ok hok _ _ _ ?_, fun len cap h1 h2 => ?_⟩
  · exact ⟨hn, arr, heap_push_new _ _, hs, fun r j hr hj => ⟨(h r j hr hj).1, (h r j hr hj).2.mono (fun _ h => h) (fun _ _ _ h => h) (fun b hb => heap_push_lt _ _ (hok.kb b hb))⟩⟩
  · have := Rep.ms (K := (c.push s (.cells arr t) cp).K) (W := (c.push s (.cells arr t) cp).W) (β := (c.push s (.cells arr t) cp).β) s.nx 0 k 0 len c.W.heap.size cp cap (by simp [Cfg.push, Pl.add]) h1 (by omega)
    simpa using this

theorem buildSlice_fine {P : Program} {c : Cfg} {s : S} {t : TypeId} {len : Nat} {parts : List (Nat × D)} {vals : Array (Nat × Value)} {K : D → S → Prop} (hok : c.Ok s) (hl : vals.toList.length = parts.length)
    (hr : ∀ (j : Nat) (p : Nat × D) (q : Nat × Value), parts[j]? = some p → vals.toList[j]? = some q → q.1 = p.1 ∧ c.Rep p.2 q.2) (h : aBuildSlice P t len parts s K) :
    ∃ c' v d' s', (Instr.buildSlice t len vals).run P c.W = .ok v c'.W ∧ Ext c c' ∧ c'.Ok s' ∧ c'.Rep d' v ∧ K d' s' := by
  unfold aBuildSlice at h
  split at h <;> try (exact h.elim)
  rename_i x hx
  split at h <;> try (exact h.elim)
  rename_i ps hps
  obtain ⟨⟨h1, h2, h3⟩, h⟩ := h
  obtain ⟨i, z, hu, hi, hs, hby, hz, hzc, hzl, hk0, hz1⟩ := tEl_some hx
  have hzero : ∀ w, (zeroValue x.e).run P w = .ok z w := fun w => by simp [zeroValue, run_typeInfo' hi, hz]
  by_cases hlen : len * x.k = 0
  · have hl0 : len = 0 := by
      rcases Nat.mul_eq_zero.1 hlen with h | h
      · exact h
      · omega
    subst hl0
    have hp0 : parts = [] := by
      cases parts with
      | nil => rfl
      | cons p parts => simp at h2
    subst hp0
    have hv0 : vals.toList = [] := List.eq_nil_of_length_eq_zero hl
    obtain ⟨e1, e2, e3⟩ := newRows_obj (c := c) hok x.e (k := x.k) (n := 0) (cp := 0) (cell := litCell x.zs ps) (arr := #[]) (by simp) (Nat.le_refl _) (fun r j hr _ => absurd hr (by omega))
    refine ⟨_, _, _, _, ?_, e1, e2, e3 0 0 (Nat.le_refl _) (Nat.le_refl _), h⟩
    simp [Instr.buildSlice, run_underlying' hu, run_sizeOf' hi, hv0, Instr.fill, newRow, Cfg.push, Array.range_zero']
  · have hbase := zeros_rows c hzl hk0 hz1 len ((Array.range (len * x.k)).map (x.zs.toArray[· % x.zs.toArray.size]!)) (by simp) (fun j hj => madeCells_get x.zs hzl hk0 _ j hj)
    obtain ⟨arr', e1, e2⟩ := rows_fill parts vals.toList ps _ _ hps h2 h3 hbase hl hr
    obtain ⟨g1, g2, g3⟩ := newRows_obj (c := c) hok x.e (k := x.k) (n := len) (cp := len) (cell := litCell x.zs ps) (arr := arr') e2.size (Nat.le_refl _)
      (fun r j hr hj => ⟨e2.one _ (idx_lt hr hj), by rw [litCell_find]; exact e2.rep r j hr hj⟩)
    refine ⟨_, _, _, _, ?_, g1, g2, g3 len len (Nat.le_refl _) (Nat.le_refl _), h⟩
    have := run_buildSlice (P := P) c.W t x.e len vals arr' i z hu hi hz (by rw [hs]; omega) (by rw [hs]; exact hlen) (by rw [hs, hzc]; exact e1)
    simpa [Cfg.push] using this

def aMake (P : Program) (t : TypeId) (l cp : D) (s : S) (K : D → S → Prop) : Prop :=
  match tEl P t, l, cp with
  | some x, .v (.int _ l), .v (.int _ c) => (0 ≤ l ∧ l ≤ c ∧ x.by_ * c ≤ 281474976710656 ∧ c ≤ 9223372036854775807) ∧ K (.ms s.nx 0 x.k 0 l.toNat) (s.push (.blk x.k l.toNat x.e fun _ j => .v (x.zs.getD j undef)))
  | _, _, _ => False

theorem make_fine {P : Program} {c : Cfg} {s : S} {t : TypeId} {dl dc : D} {vl vc : Value} {K : D → S → Prop} (hok : c.Ok s) (hl : c.Rep dl vl) (hc : c.Rep dc vc) (h : aMake P t dl dc s K) :
    ∃ c' v d' s', (Instr.makeSlice t vl vc).run P c.W = .ok v c'.W ∧ Ext c c' ∧ c'.Ok s' ∧ c'.Rep d' v ∧ K d' s' := by
  unfold aMake at h
  split at h <;> try (exact h.elim)
  rename_i x kl l kc c0 hx
  cases hl; cases hc
  obtain ⟨⟨h1, h2, h3, h4⟩, h⟩ := h
  obtain ⟨i, z, hu, hi, hs, hby, hz, hzc, hzl, hk0, hz1⟩ := tEl_some hx
  have hrun := run_make (P := P) c.W t x.e i z hu hi hz kl kc l c0 h1 h2 (by rw [hby]; exact h3) h4
  have hrows := zeros_rows c hzl hk0 hz1 c0.toNat (madeCells z.cells (c0.toNat * i.size)) (by simp [madeCells, hs]) (fun j hj => by rw [madeCells, hzc]; exact madeCells_get x.zs hzl hk0 _ j (by rw [hs]; exact hj))
  obtain ⟨g1, g2, g3⟩ := newRows_obj (c := c) hok x.e (k := x.k) (n := l.toNat) (cp := c0.toNat) (cell := fun _ j => .v (x.zs.getD j undef)) (arr := madeCells z.cells (c0.toNat * i.size)) hrows.size (by omega)
    (fun r j hr hj => ⟨hrows.one _ (idx_lt (by omega) hj), hrows.rep r j (by omega) hj⟩)
  exact ⟨_, _, _, _, hrun, g1, g2, g3 l.toNat c0.toNat (by omega) (Nat.le_refl _), h⟩

end Go.Abs
end
section
/-
  An abstract machine over the model, part 6 a: append to a slice of the call's own.
-/
namespace Go.Abs
open Go

def S.kill (s : S) (f i : Nat) : S := ⟨St.set s.o f i none, s.nx⟩

theorem kill_o {s : S} {f i f' i' : Nat} {B : SObj} (h : (s.kill f i).o f' i' = some B) : s.o f' i' = some B ∧ ¬ (f' = f ∧ i' = i) := by
  change (if f' = f ∧ i' = i then none else s.o f' i') = some B at h
  split at h
  · cases h
  · exact ⟨h, ‹_›⟩

theorem kill_ok {c : Cfg} {s : S} (h : c.Ok s) (f i : Nat) : c.Ok (s.kill f i) where
  kb := h.kb
  βb := h.βb
  fresh := h.fresh
  obj f' i' B hB := h.obj f' i' B (kill_o hB).1
  inj f1 i1 f2 i2 B1 B2 b cp1 cp2 h1 h2 := h.inj f1 i1 f2 i2 B1 B2 b cp1 cp2 (kill_o h1).1 (kill_o h2).1

/-- An object that is empty, and lies nowhere. -/
theorem empty_ok {c : Cfg} {s : S} (h : c.Ok s) (B : SObj) (hB : B.empty) : c.Ok (s.push B) where
  kb := h.kb
  βb := h.βb
  fresh f i hf := h.fresh f i (by change s.nx + 1 ≤ f at hf; omega)
  obj f i B' hB' := by
    change (if f = s.nx ∧ i = 0 then some B else s.o f i) = some B' at hB'
    split at hB'
    · rename_i hfi
      cases hB'
      exact ⟨by show f < s.nx + 1; omega, .inr ⟨h.fresh f i (by omega), hB⟩⟩
    · obtain ⟨h1, h2⟩ := h.obj f i B' hB'
      exact ⟨by show f < s.nx + 1; omega, h2⟩
  inj f i f' i' B1 B2 b cp1 cp2 h1 h2 h3 h4 := by
    change (if f = s.nx ∧ i = 0 then some B else s.o f i) = some B1 at h1
    change (if f' = s.nx ∧ i' = 0 then some B else s.o f' i') = some B2 at h2
    by_cases ha : f = s.nx ∧ i = 0
    · rw [h.fresh f i (by omega)] at h3; cases h3
    · by_cases hb : f' = s.nx ∧ i' = 0
      · rw [h.fresh f' i' (by omega)] at h4; cases h4
      · rw [if_neg ha] at h1; rw [if_neg hb] at h2
        exact h.inj _ _ _ _ _ _ _ _ _ h1 h2 h3 h4

/-- A new name for an object that is written. -/
theorem rename_fine {c : Cfg} {s : S} (h : c.Ok s) {f i b cp : Nat} {B B' : SObj} (hB : s.o f i = some B) (hβ : c.β f i = some (b, cp)) {W' : World} (hT : Touch c.W W' b)
    (hO : ObjAt c.K c.β W' b cp B') :
    Ext c ⟨c.K, Pl.add c.β s.nx b cp, W'⟩ ∧ Cfg.Ok ⟨c.K, Pl.add c.β s.nx b cp, W'⟩ ((s.kill f i).push B') := by
  have hadd : ∀ f' i' x, c.β f' i' = some x → Pl.add c.β s.nx b cp f' i' = some x := by
    intro f' i' x hx
    have := h.β_lt hx
    show (if f' = s.nx ∧ i' = 0 then _ else c.β f' i') = some x
    rw [if_neg (by omega)]; exact hx
  have hinv : ∀ f' i' x, Pl.add c.β s.nx b cp f' i' = some x → (f' = s.nx ∧ i' = 0 ∧ x = (b, cp)) ∨ c.β f' i' = some x := by
    intro f' i' x hx
    change (if f' = s.nx ∧ i' = 0 then some (b, cp) else c.β f' i') = some x at hx
    split at hx
    · cases hx; exact .inl ⟨by omega, by omega, rfl⟩
    · exact .inr hx
  have hx := touch_ext h hB hβ hT
  have hk := (h.at_ hB hβ).1
  refine ⟨⟨fun _ hb => hb, hadd, hx.size, hx.os, hx.tape, hx.output, hx.keep, hx.frame, hx.newK, ?_⟩, ⟨?_, ?_, ?_, ?_, ?_⟩⟩
  · intro f' i' b' cp' hb
    rcases hinv _ _ _ hb with ⟨_, _, he⟩ | he
    · cases he; exact .inl ⟨f, i, cp, hβ⟩
    · exact .inl ⟨f', i', cp', he⟩
  · intro b' hb'; show b' < W'.heap.size; rw [hT.size]; exact h.kb b' hb'
  · intro f' i' b' cp' hb
    show b' < W'.heap.size; rw [hT.size]
    rcases hinv _ _ _ hb with ⟨_, _, he⟩ | he
    · cases he; exact h.βb _ _ _ _ hβ
    · exact h.βb _ _ _ _ he
  · intro f' i' hf
    change s.nx + 1 ≤ f' at hf
    show (if f' = s.nx ∧ i' = 0 then _ else c.β f' i') = none
    rw [if_neg (by omega)]; exact h.fresh f' i' (by omega)
  · intro f' i' B1 hB1
    change (if f' = s.nx ∧ i' = 0 then some B' else (s.kill f i).o f' i') = some B1 at hB1
    split at hB1
    · rename_i hfi
      cases hB1
      refine ⟨by show f' < s.nx + 1; omega, .inl ⟨b, cp, ?_, hk, hO.mono (fun _ h => h) hadd (fun _ _ => rfl) rfl⟩⟩
      show (if f' = s.nx ∧ i' = 0 then _ else _) = _
      rw [if_pos hfi]
    · rename_i hfi
      obtain ⟨hB2, hne⟩ := kill_o hB1
      obtain ⟨hlt, ho⟩ := h.obj f' i' B1 hB2
      refine ⟨by show f' < s.nx + 1; omega, ?_⟩
      rcases ho with ⟨b1, cp1, g1, g2, g3⟩ | ⟨g1, g2⟩
      · refine .inl ⟨b1, cp1, hadd _ _ _ g1, g2, g3.mono (fun _ h => h) hadd hx.keep (hT.other b1 fun e => ?_)⟩
        subst e
        exact hne (h.inj _ _ _ _ _ _ _ _ _ hB2 hB g1 hβ)
      · refine .inr ⟨?_, g2⟩
        show (if f' = s.nx ∧ i' = 0 then _ else c.β f' i') = none
        rw [if_neg hfi]; exact g1
  · intro f1 i1 f2 i2 B1 B2 b' cp1 cp2 h1 h2 h3 h4
    change (if f1 = s.nx ∧ i1 = 0 then some B' else (s.kill f i).o f1 i1) = some B1 at h1
    change (if f2 = s.nx ∧ i2 = 0 then some B' else (s.kill f i).o f2 i2) = some B2 at h2
    by_cases ha : f1 = s.nx ∧ i1 = 0 <;> by_cases hb : f2 = s.nx ∧ i2 = 0
    · omega
    · exfalso
      rw [if_neg hb] at h2
      obtain ⟨g1, g2⟩ := kill_o h2
      rcases hinv _ _ _ h3 with ⟨_, _, he⟩ | he
      · cases he
        rcases hinv _ _ _ h4 with ⟨e1, e2, _⟩ | he4
        · exact hb ⟨e1, e2⟩
        · exact g2 (h.inj _ _ _ _ _ _ _ _ _ g1 hB he4 hβ)
      · have := h.β_lt he; omega
    · exfalso
      rw [if_neg ha] at h1
      obtain ⟨g1, g2⟩ := kill_o h1
      rcases hinv _ _ _ h4 with ⟨_, _, he⟩ | he
      · cases he
        rcases hinv _ _ _ h3 with ⟨e1, e2, _⟩ | he4
        · exact ha ⟨e1, e2⟩
        · exact g2 (h.inj _ _ _ _ _ _ _ _ _ g1 hB he4 hβ)
      · have := h.β_lt he; omega
    · rw [if_neg ha] at h1; rw [if_neg hb] at h2
      rcases hinv _ _ _ h3 with ⟨e1, e2, _⟩ | h3'
      · exact absurd ⟨e1, e2⟩ ha
      · rcases hinv _ _ _ h4 with ⟨e1, e2, _⟩ | h4'
        · exact absurd ⟨e1, e2⟩ hb
        · exact h.inj _ _ _ _ _ _ _ _ _ (kill_o h1).1 (kill_o h2).1 h3' h4'

def appC (cell : Nat → Nat → D) (n : Nat) (src : Nat → Nat → D) : Nat → Nat → D := fun r c => if r < n then cell r c else src (r - n) c

def aSrc (y : D) (s : S) (k : Nat) (R : Nat → (Nat → Nat → D) → Prop) : Prop :=
  match y with
  | .v (.slice none 0 0) => R 0 fun _ _ => .any
  | .sl k' m row => k' = k ∧ R m row
  | .ms f i k' lo m =>
    match s.o f i with
    | some (.blk k'' n _ cell) => (k' = k ∧ k'' = k ∧ lo + m ≤ n) ∧ R m fun r c => cell (lo + r) c
    | _ => False
  | _ => False

def aBase (x : D) (s : S) (k : Nat) (e : TypeId) (R : Nat → (Nat → Nat → D) → S → Prop) : Prop :=
  match x with
  | .v (.slice none 0 0) => R 0 (fun _ _ => .any) s
  | .ms f i k' lo len =>
    match s.o f i with
    | some (.blk k'' n ty cell) => (lo = 0 ∧ k' = k ∧ k'' = k ∧ n = len ∧ ty = e) ∧ R len cell (s.kill f i)
    | _ => False
  | _ => False

def aAppend (P : Program) (t : TypeId) (x y : D) (s : S) (K : D → S → Prop) : Prop :=
  match tEl P t with
  | none => False
  | some x0 =>
    aSrc y s x0.k fun m src => aBase x s x0.k x0.e fun len cell s' =>
      ((len + m) * x0.by_ ≤ 140737488355328 ∧ len + m ≤ 9223372036854775807) ∧ K (.ms s'.nx 0 x0.k 0 (len + m)) (s'.push (.blk x0.k (len + m) x0.e (appC cell len src)))

def SrcRep (c : Cfg) (k m : Nat) (src : Nat → Nat → D) (v : Value) : Prop :=
  ((∃ a cap, v = .slice a 0 cap) ∧ m = 0) ∨ ∃ (b o cap : Nat) (news : List Value), v = .slice (some ⟨b, o, none⟩) m cap ∧ news.length = m * k ∧
    (∀ j u, news[j]? = some u → c.W.cell? ((⟨b, o, none⟩ : Addr).add j) = some u) ∧ (∀ u ∈ news, u.oneCell' = true) ∧
    ∀ r j, r < m → j < k → c.Rep (src r j) (news.getD (r * k + j) undef)

theorem range_get (n : Nat) (g : Nat → Value) (j : Nat) (hj : j < n) : ((List.range n).map g).getD j undef = g j := by
  simp [List.getD, List.getElem?_range hj]

theorem src_rep {c : Cfg} {s : S} {y : D} {v : Value} {k : Nat} {R : Nat → (Nat → Nat → D) → Prop} (hok : c.Ok s) (hk : 0 < k) (hp : c.Rep y v) (h : aSrc y s k R) :
    ∃ m src, SrcRep c k m src v ∧ R m src := by
  have key : ∀ {m : Nat} (g : Nat → Nat → Value) (src : Nat → Nat → D) (b o cap : Nat), (∀ i j, i < m → j < k → c.W.cell? ⟨b, o + (i * k + j), none⟩ = some (g i j)) →
      (∀ i j, i < m → j < k → (g i j).oneCell' = true) → (∀ i j, i < m → j < k → c.Rep (src i j) (g i j)) → SrcRep c k m src (.slice (some ⟨b, o, none⟩) m cap) := by
    intro m g src b o cap h1 h2 h3
    have hdm : ∀ j, j < m * k → j / k < m ∧ j % k < k := fun j hj => ⟨(Nat.div_lt_iff_lt_mul hk).2 hj, Nat.mod_lt _ hk⟩
    refine .inr ⟨b, o, cap, (List.range (m * k)).map fun j => g (j / k) (j % k), rfl, by simp, ?_, ?_, ?_⟩
    · intro j u hu
      have hj : j < m * k := by
        rcases Nat.lt_or_ge j (m * k) with h | h
        · exact h
        · rw [List.getElem?_eq_none (by simpa using h)] at hu; cases hu
      simp only [List.getElem?_map, List.getElem?_range hj, Option.map_some, Option.some.injEq] at hu
      subst hu
      rw [addr_add]
      have := h1 _ _ (hdm j hj).1 (hdm j hj).2
      rwa [show j / k * k + j % k = j by rw [Nat.mul_comm]; exact Nat.div_add_mod j k] at this
    · intro u hu
      simp only [List.mem_map, List.mem_range] at hu
      obtain ⟨j, hj, rfl⟩ := hu
      exact h2 _ _ (hdm j hj).1 (hdm j hj).2
    · intro r j hr hj
      rw [range_get _ _ _ (idx_lt hr hj)]
      have e1 : (r * k + j) / k = r := by rw [Nat.mul_comm, Nat.mul_add_div hk, Nat.div_eq_of_lt hj]; omega
      have e2 : (r * k + j) % k = j := by rw [Nat.mul_comm, Nat.mul_add_mod, Nat.mod_eq_of_lt hj]
      rw [e1, e2]
      exact h3 r j hr hj
  unfold aSrc at h
  split at h
  · cases hp; exact ⟨0, _, .inl ⟨⟨_, _, rfl⟩, rfl⟩, h⟩
  · obtain ⟨rfl, h⟩ := h
    cases hp with
    | sl k n row b off cap g hb hc hg ho hr => exact ⟨_, _, key g _ b off cap hg ho hr, h⟩
    | slnil k row => exact ⟨_, _, .inl ⟨⟨_, _, rfl⟩, rfl⟩, h⟩
    | sl0 k row a cap => exact ⟨_, _, .inl ⟨⟨_, _, rfl⟩, rfl⟩, h⟩
  · split at h <;> try (exact h.elim)
    rename_i f i k' lo m _ k'' n ty cell hB
    obtain ⟨⟨rfl, rfl, hle⟩, h⟩ := h
    cases hp with
    | ms f0 i0 k0 lo0 len0 b cp cap hβ hc hcp =>
      obtain ⟨hk, hm, arr, ha, hsz, hcell⟩ := hok.at_ hB hβ
      refine ⟨_, _, key (fun r j => arr.getD ((lo + r) * k'' + j) undef) _ b (lo * k'') cap ?_ ?_ ?_, h⟩
      · intro i j hi hj
        have := arr_cell ha (o := (lo + i) * k'' + j) (by rw [hsz]; exact idx_lt (by omega) hj)
        rwa [show lo * k'' + (i * k'' + j) = (lo + i) * k'' + j by rw [Nat.add_mul]; omega]
      · intro i j hi hj; exact (hcell _ _ (by omega) hj).1
      · intro i j hi hj; exact (hcell _ _ (by omega) hj).2
    | msnil f0 i0 k0 lo0 => exact ⟨_, _, .inl ⟨⟨_, _, rfl⟩, rfl⟩, h⟩
  · exact h.elim

section runs
variable {P : Program} {w : World} {t ty e : TypeId} {i : TypeInfo}
theorem run_append_none (ht : P.underlying t = some (.slice e)) (hi : P.info? e = some i) (n cap : Nat) (a b : Option Addr) (c : Nat) (h : n ≤ cap) :
    (Builtin.append_ #[t, t] ty #[.slice a n cap, .slice b 0 c]).run P w = .ok (.slice a n cap) w := by
  cases a <;> cases b <;> simp [Builtin.append_, run_underlying' ht, run_sizeOf' hi, Builtin.lenOf, Builtin.firstCells, storeCells, loadCells, loadCellsFrom, h]
theorem run_append_zero (ht : P.underlying t = some (.slice e)) (hi : P.info? e = some i) (n cap : Nat) (a : Option Addr) (b : Addr) (c : Nat) (h : n ≤ cap) :
    (Builtin.append_ #[t, t] ty #[.slice a n cap, .slice (some b) 0 c]).run P w = .ok (.slice a n cap) w := by
  cases a <;> simp [Builtin.append_, run_underlying' ht, run_sizeOf' hi, Builtin.lenOf, Builtin.firstCells, storeCells, loadCells, loadCellsFrom, h]
end runs

theorem grownCap_maxLen (w : World) (need old : Nat) (e : TypeId) : need ≤ grownCap w need old e := grownCap_ge w need old e

theorem append_getD (a b : List Value) (j : Nat) : (a ++ b).getD j undef = if j < a.length then a.getD j undef else b.getD (j - a.length) undef := by
  simp only [List.getD_eq_getElem?_getD]
  by_cases h : j < a.length
  · rw [List.getElem?_append_left h, if_pos h]
  · rw [List.getElem?_append_right (by omega), if_neg h]

theorem append_fine {P : Program} {c : Cfg} {s : S} {t ty : TypeId} {x y : D} {vx vy : Value} {K : D → S → Prop} (hok : c.Ok s) (hx : c.Rep x vx) (hy : c.Rep y vy) (h : aAppend P t x y s K) :
    ∃ c' v d' s', (Builtin.append_ #[t, t] ty #[vx, vy]).run P c.W = .ok v c'.W ∧ Ext c c' ∧ c'.Ok s' ∧ c'.Rep d' v ∧ K d' s' := by
  unfold aAppend at h
  split at h <;> try (exact h.elim)
  rename_i x0 hx0
  obtain ⟨inf, z, hu, hi, hs, hby, hz, hzc, hzl, hk0, hz1⟩ := tEl_some hx0
  obtain ⟨m, src, hsrc, h⟩ := src_rep hok hk0 hy h
  -- the base lies nowhere
  have hnil : ∀ (s' : S), c.Ok s' → ∀ (cell : Nat → Nat → D), ((0 + m) * x0.by_ ≤ 140737488355328 ∧ 0 + m ≤ 9223372036854775807) ∧ K (.ms s'.nx 0 x0.k 0 (0 + m)) (s'.push (.blk x0.k (0 + m) x0.e (appC cell 0 src))) →
      ∃ c' v d' s', (Builtin.append_ #[t, t] ty #[.slice none 0 0, vy]).run P c.W = .ok v c'.W ∧ Ext c c' ∧ c'.Ok s' ∧ c'.Rep d' v ∧ K d' s' := by
    intro s' hok' cell ⟨⟨hb1, hb2⟩, hK⟩
    have hzero : m = 0 → (Builtin.append_ #[t, t] ty #[.slice none 0 0, vy]).run P c.W = .ok (.slice none 0 0) c.W → ∃ c' v d' s', (Builtin.append_ #[t, t] ty #[.slice none 0 0, vy]).run P c.W = .ok v c'.W ∧ Ext c c' ∧ c'.Ok s' ∧ c'.Rep d' v ∧ K d' s' := by
      intro hm hr
      subst hm
      exact ⟨c, _, _, _, hr, Ext.refl c, empty_ok hok' (.blk x0.k (0 + 0) x0.e (appC cell 0 src)) rfl, .msnil s'.nx 0 x0.k 0, hK⟩
    rcases hsrc with ⟨⟨a0, cap0, rfl⟩, hm⟩ | ⟨b, o, cap, news, rfl, hnl, hnc, hn1, hnr⟩
    · exact hzero hm (run_append_none hu hi 0 0 none _ _ (Nat.le_refl _))
    · by_cases hm : m = 0
      · subst hm; exact hzero rfl (run_append_zero hu hi 0 0 none _ _ (Nat.le_refl _))
      · have hrun := run_append_nil (P := P) c.W t ty x0.e inf z hu hi hz ⟨b, o, none⟩ m cap news (by rw [hnl, hs]) hnc (by omega) (by omega) (by rw [hby]; simp at hb1; omega)
        have hg := grownCap_ge c.W m 0 x0.e
        have hsz : (news.toArray ++ Builtin.zeroCells z.cells (grownCap c.W m 0 x0.e - m)).size = grownCap c.W m 0 x0.e * x0.k := by
          simp only [Array.size_append, List.size_toArray, hnl, size_zeroCells, hzc, hzl]
          rw [← Nat.add_mul]; congr 1; omega
        obtain ⟨g1, g2, g3⟩ := newRows_obj (c := { c with W := c.W.drew }) (drew_ok hok') x0.e (k := x0.k) (n := 0 + m) (cp := grownCap c.W m 0 x0.e) (cell := appC cell 0 src)
          (arr := news.toArray ++ Builtin.zeroCells z.cells (grownCap c.W m 0 x0.e - m)) hsz (by omega) (fun r j hr hj => by
            have hlt : r * x0.k + j < news.length := by rw [hnl]; exact idx_lt (by omega) hj
            have e1 : (news.toArray ++ Builtin.zeroCells z.cells (grownCap c.W m 0 x0.e - m)).getD (r * x0.k + j) undef = news.getD (r * x0.k + j) undef := by
              rw [Array.getD_eq_getD_getElem?, Array.getElem?_append_left (by simpa using hlt)]
              simp [List.getD]
            rw [e1]
            refine ⟨hn1 _ (by simp [List.getD, List.getElem?_eq_getElem hlt]), ?_⟩
            have := (drew_ext c).rep (hnr r j (by omega) hj)
            simpa [appC] using this)
        refine ⟨_, _, _, _, hrun, (drew_ext c).trans g1, g2, ?_, hK⟩
        have := g3 (0 + m) (grownCap c.W m 0 x0.e) (by omega) (Nat.le_refl _)
        simpa using this
  unfold aBase at h
  split at h
  · cases hx; exact hnil s hok _ h
  · split at h <;> try (exact h.elim)
    rename_i f i k' lo len _ k'' n tyb cell hB
    obtain ⟨⟨rfl, rfl, rfl, rfl, rfl⟩, h⟩ := h
    cases hx with
    | msnil f0 i0 k0 lo0 => exact hnil (s.kill _ _) (kill_ok hok _ _) cell h
    | ms f0 i0 k0 lo0 len0 b cp cap hβ hc hcp =>
      obtain ⟨⟨hb1, hb2⟩, hK⟩ := h
      obtain ⟨hnk, hm0, arr, ha, hsz, hcell⟩ := hok.at_ hB hβ
      simp only [Nat.zero_mul] at *
      have hle : n * x0.k ≤ arr.size := by rw [hsz]; exact Nat.mul_le_mul_right _ (by omega)
      -- nothing is appended
      have hzero : m = 0 → (Builtin.append_ #[t, t] ty #[.slice (some ⟨b, 0, none⟩) n cap, vy]).run P c.W = .ok (.slice (some ⟨b, 0, none⟩) n cap) c.W →
          ∃ c' v d' s', (Builtin.append_ #[t, t] ty #[.slice (some ⟨b, 0, none⟩) n cap, vy]).run P c.W = .ok v c'.W ∧ Ext c c' ∧ c'.Ok s' ∧ c'.Rep d' v ∧ K d' s' := by
        intro hm hr
        subst hm
        have hT : Touch c.W c.W b := ⟨rfl, fun _ _ => rfl, rfl, rfl, rfl⟩
        obtain ⟨g1, g2⟩ := rename_fine (B' := .blk x0.k (n + 0) x0.e (appC cell n src)) hok hB hβ hT ⟨by omega, arr, ha, hsz, fun r j hr hj => by
          have := hcell r j (by omega) hj
          simpa [appC, show r < n by omega] using this⟩
        refine ⟨⟨c.K, Pl.add c.β s.nx b cp, c.W⟩, _, _, _, hr, g1, g2, ?_, hK⟩
        have := Rep.ms (K := c.K) (W := c.W) (β := Pl.add c.β s.nx b cp) s.nx 0 x0.k 0 n b cp cap (by simp [Pl.add]) hc hcp
        simpa [S.kill] using this
      rcases hsrc with ⟨⟨a0, cap0, rfl⟩, hm⟩ | ⟨b', o, cap', news, rfl, hnl, hnc, hn1, hnr⟩
      · exact hzero hm (run_append_none hu hi n cap _ _ _ hc)
      · by_cases hm : m = 0
        · subst hm; exact hzero rfl (run_append_zero hu hi n cap _ _ _ hc)
        · by_cases hroom : n + m ≤ cap
          · -- there is room
            have hfit : n * x0.k + news.length ≤ arr.size := by
              rw [hnl, hsz, ← Nat.add_mul]; exact Nat.mul_le_mul_right _ (by omega)
            have hrun := run_append_room (P := P) c.W t ty x0.e inf hu hi b n cap arr ha ⟨b', o, none⟩ m cap' news (by rw [hnl, hs]) hnc hn1 hroom (by rw [hs]; exact hfit)
            rw [hs] at hrun
            have hT := touch_setRow c.W b (arr.toList.take (n * x0.k) ++ news ++ arr.toList.drop (n * x0.k + news.length)).toArray
            have hext := touch_ext hok hB hβ hT
            obtain ⟨g1, g2⟩ := rename_fine (B' := .blk x0.k (n + m) x0.e (appC cell n src)) hok hB hβ hT ⟨by omega, _, setRow_heap c.W b arr _ x0.e (0, 0) ha, by
                simp only [List.size_toArray]; rw [mid_length _ _ _ (by simpa using hfit)]; simpa using hsz, fun r j hr hj => by
              rw [arr_getD]
              simp only []
              rw [mid_get _ _ _ _ (by simpa using hfit)]
              by_cases hrn : r < n
              · have hout : ¬ (n * x0.k ≤ r * x0.k + j ∧ r * x0.k + j < n * x0.k + news.length) := by
                  have := idx_lt hrn hj; omega
                rw [if_neg hout, ← arr_getD]
                have := hcell r j hrn hj
                exact ⟨this.1, by simpa [appC, hrn] using hext.rep this.2⟩
              · have hge : n * x0.k ≤ r * x0.k := Nat.mul_le_mul_right _ (by omega)
                have hlt : r * x0.k + j < (n + m) * x0.k := idx_lt hr hj
                rw [Nat.add_mul, ← hnl] at hlt
                have hin : n * x0.k ≤ r * x0.k + j ∧ r * x0.k + j < n * x0.k + news.length := by omega
                rw [if_pos hin]
                have hidx : r * x0.k + j - n * x0.k = (r - n) * x0.k + j := by rw [Nat.sub_mul]; omega
                rw [hidx]
                have hlt' : (r - n) * x0.k + j < news.length := by omega
                refine ⟨hn1 _ (by simp [List.getD, List.getElem?_eq_getElem hlt']), ?_⟩
                have := hext.rep (hnr (r - n) j (by omega) hj)
                simpa [appC, hrn] using this⟩
            refine ⟨_, _, _, _, hrun, g1, g2, ?_, hK⟩
            have := Rep.ms (K := c.K) (W := c.W.setRow b (arr.toList.take (n * x0.k) ++ news ++ arr.toList.drop (n * x0.k + news.length)).toArray) (β := Pl.add c.β s.nx b cp) s.nx 0 x0.k 0 (n + m) b cp cap (by simp [Pl.add]) hroom hcp
            simpa [S.kill] using this
          · -- a new block
            have hlt : cap < n + m := by omega
            have holds : ∀ j v, (arr.toList.take (n * x0.k))[j]? = some v → c.W.cell? ((⟨b, 0, none⟩ : Addr).add j) = some v := by
              intro j v hv
              have hj : j < n * x0.k := by
                rcases Nat.lt_or_ge j (n * x0.k) with h | h
                · exact h
                · rw [List.getElem?_eq_none (by simp; omega)] at hv; cases hv
              rw [List.getElem?_take, if_pos hj] at hv
              rw [addr_add, Nat.zero_add, arr_cell ha (by omega), arr_getD, List.getD_eq_getElem?_getD, hv]; rfl
            have hol : (arr.toList.take (n * x0.k)).length = n * x0.k := by simp; omega
            have hrun := run_append_grow (P := P) c.W t ty x0.e inf z hu hi hz ⟨b, 0, none⟩ n cap (arr.toList.take (n * x0.k)) (by rw [hol, hs]) holds ⟨b', o, none⟩ m cap' news (by rw [hnl, hs]) hnc hlt (by omega)
              (by rw [hby]; exact growslice_fits hlt hb1)
            have hg := grownCap_ge c.W (n + m) cap x0.e
            generalize hG : grownCap c.W (n + m) cap x0.e = G at hrun hg
            have hsz' : ((arr.toList.take (n * x0.k)).toArray ++ news.toArray ++ Builtin.zeroCells z.cells (G - (n + m))).size = G * x0.k := by
              simp only [Array.size_append, List.size_toArray, hol, hnl, size_zeroCells, hzc, hzl]
              rw [← Nat.add_mul, ← Nat.add_mul]; congr 1; omega
            obtain ⟨g1, g2, g3⟩ := newRows_obj (c := { c with W := c.W.drew }) (drew_ok (kill_ok hok _ _)) x0.e (k := x0.k) (n := n + m) (cp := G) (cell := appC cell n src)
              (arr := (arr.toList.take (n * x0.k)).toArray ++ news.toArray ++ Builtin.zeroCells z.cells (G - (n + m))) hsz' (by omega) (fun r j hr hj => by
                have hlt2 : r * x0.k + j < n * x0.k + m * x0.k := by rw [← Nat.add_mul]; exact idx_lt hr hj
                have e1 : ((arr.toList.take (n * x0.k)).toArray ++ news.toArray ++ Builtin.zeroCells z.cells (G - (n + m))).getD (r * x0.k + j) undef = (arr.toList.take (n * x0.k) ++ news).getD (r * x0.k + j) undef := by
                  rw [Array.getD_eq_getD_getElem?, Array.getElem?_append_left (by simp only [Array.size_append, List.size_toArray, hol, hnl]; exact hlt2)]
                  simp [List.getD]
                rw [e1, append_getD, hol]
                by_cases hrn : r < n
                · have := idx_lt hrn hj
                  have h2 := hcell r j hrn hj
                  rw [if_pos this]
                  have e2 : (arr.toList.take (n * x0.k)).getD (r * x0.k + j) undef = arr.getD (r * x0.k + j) undef := by
                    rw [arr_getD, List.getD_eq_getElem?_getD, List.getElem?_take, if_pos this, ← List.getD_eq_getElem?_getD]
                  rw [e2]
                  exact ⟨h2.1, by simpa [appC, hrn] using (drew_ext c).rep h2.2⟩
                · have hge : n * x0.k ≤ r * x0.k := Nat.mul_le_mul_right _ (by omega)
                  rw [if_neg (by omega)]
                  have hidx : r * x0.k + j - n * x0.k = (r - n) * x0.k + j := by rw [Nat.sub_mul]; omega
                  rw [hidx]
                  have hlt' : (r - n) * x0.k + j < news.length := by omega
                  refine ⟨hn1 _ (by simp [List.getD, List.getElem?_eq_getElem hlt']), ?_⟩
                  have := (drew_ext c).rep (hnr (r - n) j (by omega) hj)
                  simpa [appC, hrn] using this)
            refine ⟨_, _, _, _, hrun, (drew_ext c).trans g1, g2, ?_, hK⟩
            have := g3 (n + m) G (by omega) (Nat.le_refl _)
            simpa using this
  · exact h.elim

end Go.Abs
end
section
/-
  An abstract machine over the model: maps with plain keys.
-/
namespace Go.Abs
open Go

def isKeyB : TypeDesc → Value → Bool
  | .bool, .bool _ => true
  | .int k, .int k' _ => k' == k
  | .string, .string _ => true
  | _, _ => false
theorem isKeyB_iff {d : TypeDesc} {v : Value} (h : isKeyB d v = true) : MapKept.IsKey d v := by
  unfold isKeyB at h
  split at h <;> simp_all [MapKept.IsKey]
def keq : Value → Value → Bool
  | .bool a, .bool b => a == b
  | .int _ a, .int _ b => a == b
  | .string a, .string b => a == b
  | _, _ => false
theorem keq_iff {d : TypeDesc} {a b : Value} (ha : MapKept.IsKey d a) (hb : MapKept.IsKey d b) : keq a b = true ↔ a = b := by
  cases d <;> cases a <;> cases b <;> simp_all [MapKept.IsKey, keq, MapKept.bytes_beq]

def mfind (k : Value) : List (Value × D) → Option D
  | [] => none
  | (k', x) :: es => if keq k' k = true then some x else mfind k es
def mput (k : Value) (d : D) : List (Value × D) → List (Value × D)
  | [] => [(k, d)]
  | (k', x) :: es => if keq k' k = true then (k', d) :: es else (k', x) :: mput k d es

def tMap (P : Program) (t : TypeId) : Option (TypeDesc × Value) :=
  match P.underlying t with
  | some (.map k e) =>
    match P.underlying k, (P.info? e).bind (·.zero) with
    | some d, some z => some (d, z)
    | _, _ => none
  | _ => none
theorem tMap_some {P : Program} {t : TypeId} {d : TypeDesc} {z : Value} (h : tMap P t = some (d, z)) :
    ∃ k e i, P.underlying t = some (.map k e) ∧ P.underlying k = some d ∧ P.info? e = some i ∧ i.zero = some z := by
  unfold tMap at h
  split at h
  · rename_i k e hu
    split at h
    · rename_i d' z' hd hz
      simp only [Option.some.injEq, Prod.mk.injEq] at h
      obtain ⟨rfl, rfl⟩ := h
      cases hi : P.info? e with
      | none => simp [hi] at hz
      | some i => simp only [hi, Option.bind_some] at hz; exact ⟨k, e, i, hu, hd, hi, hz⟩
    · cases h
  · cases h

/-- Entries, as they lie. -/
def EsRel (c : Cfg) (es : List (Value × D)) (l : List MapEntry) : Prop := l.length = es.length ∧ ∀ (i : Nat) (e : Value × D), es[i]? = some e → ∃ e' : MapEntry, l[i]? = some e' ∧ e'.key = e.1 ∧ c.Rep e.2 e'.val
theorem EsRel.nil {c : Cfg} : EsRel c [] [] := ⟨rfl, fun i e h => by simp at h⟩
theorem EsRel.cons {c : Cfg} {k : Value} {x : D} {es : List (Value × D)} {l : List MapEntry} (h : EsRel c ((k, x) :: es) l) : ∃ e' l', l = e' :: l' ∧ e'.key = k ∧ c.Rep x e'.val ∧ EsRel c es l' := by
  obtain ⟨h1, h2⟩ := h
  cases l with
  | nil => simp at h1
  | cons e' l' =>
    obtain ⟨e2, g1, g2, g3⟩ := h2 0 (k, x) rfl
    simp only [List.getElem?_cons_zero, Option.some.injEq] at g1
    subst g1
    exact ⟨e', l', rfl, g2, g3, by simpa using h1, fun i e hi => by simpa using h2 (i + 1) e (by simpa using hi)⟩

theorem mfind_run {c : Cfg} {d : TypeDesc} {k : Value} (hk : MapKept.IsKey d k) : ∀ (es : List (Value × D)) (l : List MapEntry) (i : Nat), EsRel c es l → (∀ e ∈ es, isKeyB d e.1 = true) →
    match mfind k es with
    | none => Instr.findNow d k l i = some none
    | some x => ∃ (j : Nat) (e' : MapEntry), Instr.findNow d k l i = some (some (i + j, e'.val)) ∧ l[j]? = some e' ∧ e'.key = k ∧ c.Rep x e'.val
  | [], l, i, h, _ => by
    have : l = [] := List.eq_nil_of_length_eq_zero h.1
    subst this; rfl
  | (k', x) :: es, l, i, h, hall => by
    obtain ⟨e', l', rfl, g1, g2, g3⟩ := h.cons
    have hk' : MapKept.IsKey d k' := isKeyB_iff (hall (k', x) (by simp))
    obtain ⟨r, hr, hiff⟩ := MapKept.sameNow_of_keys hk (g1 ▸ hk' : MapKept.IsKey d e'.key)
    have hq := keq_iff hk' hk
    unfold mfind
    by_cases hkk : keq k' k = true
    · rw [if_pos hkk]
      have hek : e'.key = k := g1.trans (hq.1 hkk)
      have : r = true := hiff.2 hek.symm
      subst this
      exact ⟨0, e', by simp [Instr.findNow, hr], rfl, hek, g2⟩
    · rw [if_neg hkk]
      have : r = false := by
        cases r with
        | false => rfl
        | true => exact absurd (hq.2 (g1.symm.trans (hiff.1 rfl).symm)) hkk
      subst this
      have ih := mfind_run hk es l' (i + 1) g3 (fun e he => hall e (by simp [he]))
      split at ih
      · simpa [Instr.findNow, hr] using ih
      · rename_i y hy
        obtain ⟨j, e2, a1, a2, a3, a4⟩ := ih
        exact ⟨j + 1, e2, by simp only [Instr.findNow, hr, a1]; congr 3; omega, by simpa using a2, a3, a4⟩

theorem mput_none {k : Value} {d : D} : ∀ {es : List (Value × D)}, mfind k es = none → mput k d es = es ++ [(k, d)]
  | [], _ => rfl
  | (k', x) :: es, h => by
    unfold mfind at h
    split at h
    · cases h
    · rename_i hk
      unfold mput
      rw [if_neg hk, mput_none h]; rfl

def mapV (l : List Value) : List D := l.map .v
/-- A zero value, in its cells. -/
def zD (z : Value) : D :=
  match z with
  | .agg cs => cond (cs.toList.all Value.oneCell') (.agg (mapV cs.toList)) (.v z)
  | _ => .v z
theorem zD_rep (K : Nat → Prop) (β : Pl) (W : World) (z : Value) : Rep K β W (zD z) z := by
  unfold zD
  split
  · rename_i cs
    cases h : cs.toList.all Value.oneCell' with
    | false => exact .v _
    | true =>
      have := Rep.agg (K := K) (β := β) (W := W) (mapV cs.toList) cs.toList (by simp [mapV]) (fun x hx => by simpa using List.all_eq_true.1 h x hx) fun i d hd => by
        rw [mapV, List.getElem?_map] at hd
        cases hc : cs.toList[i]? with
        | none => rw [hc] at hd; cases hd
        | some v =>
          rw [hc] at hd; cases hd
          rw [List.getD_eq_getElem?_getD, hc]; exact .v v
      simpa using this
  · exact .v _
/-- A look-up. -/
def aLookE (z : Value) (o : Option SObj) (d : TypeDesc) (k : Value) (s : S) (K : D → S → Prop) : Prop :=
  match o with
  | some (.mapo es) => (isKeyB d k = true ∧ ∀ e ∈ es, isKeyB d e.1 = true) ∧ K ((mfind k es).getD (zD z)) s
  | _ => False
def aLookE2 (z : Value) (o : Option SObj) (d : TypeDesc) (k : Value) (s : S) (K : D → S → Prop) : Prop :=
  match o with
  | some (.mapo es) => (isKeyB d k = true ∧ ∀ e ∈ es, isKeyB d e.1 = true) ∧ K (.tup [(mfind k es).getD (zD z), .v (.bool (mfind k es).isSome)]) s
  | _ => False
def aLook (P : Program) (t : TypeId) (m k : D) (commaOk : Bool) (s : S) (K : D → S → Prop) : Prop :=
  match tMap P t with
  | some (d, z) =>
    match commaOk, m, k with
    | false, .mm f i, .v k => aLookE z (s.o f i) d k s K
    | true, .mm f i, .v k => aLookE2 z (s.o f i) d k s K
    | _, _, _ => False
  | none => False

theorem zero_run {P : Program} {w : World} {e : TypeId} {i : TypeInfo} {z : Value} (hi : P.info? e = some i) (hz : i.zero = some z) : (zeroValue e).run P w = .ok z w := by
  unfold zeroValue
  simp [run_typeInfo' hi, hz]

theorem map_at {c : Cfg} {s : S} (h : c.Ok s) {f i : Nat} {es : List (Value × D)} (hB : s.o f i = some (.mapo es)) {b cp : Nat} (hβ : c.β f i = some (b, cp)) :
    ∃ (es' : Array MapEntry) (clock : Nat), c.W.heap[b]? = some (.map es' clock) ∧ EsRel c es es'.toList := by
  obtain ⟨_, es', cl, h1, h2, h3⟩ := h.at_ hB hβ
  exact ⟨es', cl, h1, by simpa using h2, fun i e hi => by simpa using h3 i e hi⟩

theorem look_fine {P : Program} {c : Cfg} {s : S} {t : TypeId} {m k : D} {commaOk : Bool} {vm vk : Value} {K : D → S → Prop} (hok : c.Ok s) (hm : c.Rep m vm) (hk : c.Rep k vk) (h : aLook P t m k commaOk s K) :
    ∃ v d', (Instr.lookup t vm vk commaOk).run P c.W = .ok v c.W ∧ c.Rep d' v ∧ K d' s := by
  unfold aLook at h
  split at h <;> try (exact h.elim)
  rename_i d z ht
  obtain ⟨kt, et, inf, hu, hd, hi, hz⟩ := tMap_some ht
  split at h <;> try (exact h.elim)
  · rename_i f i kv0
    cases hk
    cases hm with
    | mm _ _ b cp hβ =>
      unfold aLookE at h
      split at h <;> try (exact h.elim)
      rename_i es hB
      obtain ⟨⟨hkey, hall⟩, h⟩ := h
      obtain ⟨es', cl, hh, hrel⟩ := map_at hok hB hβ
      have hkk := isKeyB_iff hkey
      have hrun := mfind_run hkk es es'.toList 0 hrel hall
      have hc : ∀ e, (Instr.checkKey e 10000 kt vk).run P c.W = .ok () c.W := fun e => MapKept.run_checkKey hd hkk e 9999
      cases hf : mfind vk es with
      | none =>
        rw [hf] at hrun h
        refine ⟨z, zD z, ?_, zD_rep _ _ _ z, h⟩
        simp [Instr.lookup, run_underlying' hu, MapKept.run_getObj_map hh, hc, MapKept.run_findKey hd hrun, zero_run hi hz]
      | some x =>
        rw [hf] at hrun h
        obtain ⟨j, e', g1, g2, g3, g4⟩ := hrun
        refine ⟨e'.val, x, ?_, g4, h⟩
        simp [Instr.lookup, run_underlying' hu, MapKept.run_getObj_map hh, hc, MapKept.run_findKey hd g1]
  · rename_i f i kv0
    cases hk
    cases hm with
    | mm _ _ b cp hβ =>
      unfold aLookE2 at h
      split at h <;> try (exact h.elim)
      rename_i es hB
      obtain ⟨⟨hkey, hall⟩, h⟩ := h
      obtain ⟨es', cl, hh, hrel⟩ := map_at hok hB hβ
      have hkk := isKeyB_iff hkey
      have hrun := mfind_run hkk es es'.toList 0 hrel hall
      have hc : ∀ e, (Instr.checkKey e 10000 kt vk).run P c.W = .ok () c.W := fun e => MapKept.run_checkKey hd hkk e 9999
      have hpair : ∀ (v : Value) (x : D) (q : Bool), c.Rep x v → c.Rep (.tup [x, .v (.bool q)]) (.tuple #[v, .bool q]) := fun v x q hx => by
        refine .tup [x, .v (.bool q)] [v, .bool q] rfl fun i d' hd' => ?_
        rcases i with _ | _ | i
        · simp at hd'; subst hd'; exact hx
        · simp at hd'; subst hd'; exact .v _
        · simp at hd'
      cases hf : mfind vk es with
      | none =>
        rw [hf] at hrun h
        refine ⟨.tuple #[z, .bool false], _, ?_, hpair z (zD z) false (zD_rep _ _ _ z), h⟩
        simp [Instr.lookup, run_underlying' hu, MapKept.run_getObj_map hh, hc, MapKept.run_findKey hd hrun, zero_run hi hz]
      | some x =>
        rw [hf] at hrun h
        obtain ⟨j, e', g1, g2, g3, g4⟩ := hrun
        refine ⟨.tuple #[e'.val, .bool true], _, ?_, hpair e'.val x true g4, h⟩
        simp [Instr.lookup, run_underlying' hu, MapKept.run_getObj_map hh, hc, MapKept.run_findKey hd g1]

/-- A new map. -/
def aMap (s : S) (K : D → S → Prop) : Prop := K (.mm s.nx 0) (s.push (.mapo []))
theorem map_fine {P : Program} {c : Cfg} {s : S} {t : TypeId} {K : D → S → Prop} (hok : c.Ok s) (h : aMap s K) :
    ∃ c' v d' s', (Instr.makeMap t none).run P c.W = .ok v c'.W ∧ Ext c c' ∧ c'.Ok s' ∧ c'.Rep d' v ∧ K d' s' := by
  refine ⟨c.push s (.map #[] 0) 0, .map (some c.W.heap.size), _, _, rfl, push_ext hok _ _, push_ok hok _ _ (.mapo []) ⟨#[], 0, heap_push_new _ _, rfl, fun i e h => by simp at h⟩, ?_, h⟩
  exact .mm s.nx 0 _ 0 (by simp [Cfg.push, Pl.add])

/-- A value put into a map. -/
def aPutE (o : Option SObj) (f i : Nat) (d : TypeDesc) (k : Value) (x : D) (s : S) (K : S → Prop) : Prop :=
  match o with
  | some (.mapo es) => (isKeyB d k = true ∧ ∀ e ∈ es, isKeyB d e.1 = true) ∧ K (s.put f i (.mapo (mput k x es)))
  | _ => False
def aPut (P : Program) (t : TypeId) (m k x : D) (s : S) (K : S → Prop) : Prop :=
  match tMap P t with
  | some (d, _) =>
    match m, k with
    | .mm f i, .v k => aPutE (s.o f i) f i d k x s K
    | _, _ => False
  | none => False

theorem mput_rel {c : Cfg} {d : TypeDesc} {k : Value} (hk : MapKept.IsKey d k) {x : D} {v : Value} (hx : c.Rep x v) (clock : Nat) : ∀ (es : List (Value × D)) (l : List MapEntry) (i : Nat), EsRel c es l → (∀ e ∈ es, isKeyB d e.1 = true) →
    (Instr.findNow d k l i = some none ∧ EsRel c (mput k x es) (l ++ [{ key := k, val := v, born := clock }])) ∨
    ∃ (j : Nat) (e' : MapEntry), Instr.findNow d k l i = some (some (i + j, e'.val)) ∧ l[j]? = some e' ∧ e'.key = k ∧ EsRel c (mput k x es) (l.set j { e' with key := k, val := v })
  | [], l, i, h, _ => by
    have : l = [] := List.eq_nil_of_length_eq_zero h.1
    subst this
    refine .inl ⟨rfl, rfl, fun i e hi => ?_⟩
    cases i with
    | zero => simp [mput] at hi; subst hi; exact ⟨_, rfl, rfl, hx⟩
    | succ i => simp [mput] at hi
  | (k', y) :: es, l, i, h, hall => by
    obtain ⟨e', l', rfl, g1, g2, g3⟩ := h.cons
    have hk' : MapKept.IsKey d k' := isKeyB_iff (hall (k', y) (by simp))
    obtain ⟨r, hr, hiff⟩ := MapKept.sameNow_of_keys hk (g1 ▸ hk' : MapKept.IsKey d e'.key)
    have hq := keq_iff hk' hk
    unfold mput
    by_cases hkk : keq k' k = true
    · rw [if_pos hkk]
      have hek : e'.key = k := g1.trans (hq.1 hkk)
      have : r = true := hiff.2 hek.symm
      subst this
      refine .inr ⟨0, e', by simp [Instr.findNow, hr], rfl, hek, by simp [g3.1], fun i e hi => ?_⟩
      cases i with
      | zero => simp only [List.getElem?_cons_zero, Option.some.injEq] at hi; subst hi; exact ⟨_, rfl, (hq.1 hkk).symm, hx⟩
      | succ i => simpa using g3.2 i e (by simpa using hi)
    · rw [if_neg hkk]
      have : r = false := by
        cases r with
        | false => rfl
        | true => exact absurd (hq.2 (g1.symm.trans (hiff.1 rfl).symm)) hkk
      subst this
      have more : ∀ {l2 : List MapEntry}, EsRel c (mput k x es) l2 → EsRel c ((k', y) :: mput k x es) (e' :: l2) := fun {l2} h2 => ⟨by simp [h2.1], fun i e hi => by
        cases i with
        | zero => simp only [List.getElem?_cons_zero, Option.some.injEq] at hi; subst hi; exact ⟨e', rfl, g1, g2⟩
        | succ i => simpa using h2.2 i e (by simpa using hi)⟩
      rcases mput_rel hk hx clock es l' (i + 1) g3 (fun e he => hall e (by simp [he])) with ⟨a1, a2⟩ | ⟨j, e2, a1, a2, a3, a4⟩
      · exact .inl ⟨by simpa [Instr.findNow, hr] using a1, more a2⟩
      · exact .inr ⟨j + 1, e2, by simp only [Instr.findNow, hr, a1]; congr 3; omega, by simpa using a2, a3, more a4⟩

theorem put_fine {P : Program} {c : Cfg} {s : S} {t : TypeId} {m k x : D} {vm vk vx : Value} {K : S → Prop} (hok : c.Ok s) (hm : c.Rep m vm) (hk : c.Rep k vk) (hx : c.Rep x vx) (h : aPut P t m k x s K) :
    ∃ c' s', (Instr.mapUpdate t vm vk vx).run P c.W = .ok () c'.W ∧ Ext c c' ∧ c'.Ok s' ∧ K s' := by
  unfold aPut at h
  split at h <;> try (exact h.elim)
  rename_i d z ht
  split at h <;> try (exact h.elim)
  rename_i f i kv0
  obtain ⟨kt, et, inf, hu, hd, hi, hz⟩ := tMap_some ht
  cases hk
  cases hm with
  | mm _ _ b cp hβ =>
    unfold aPutE at h
    split at h <;> try (exact h.elim)
    rename_i es hB
    obtain ⟨⟨hkey, hall⟩, h⟩ := h
    obtain ⟨es', cl, hh, hrel⟩ := map_at hok hB hβ
    have hkk := isKeyB_iff hkey
    have hc : ∀ e, (Instr.checkKey e 10000 kt vk).run P c.W = .ok () c.W := fun e => MapKept.run_checkKey hd hkk e 9999
    have hlt : b < c.W.heap.size := (Array.getElem?_eq_some_iff.1 hh).1
    have fin : ∀ (es2 : Array MapEntry) (cl2 : Nat), EsRel c (mput vk x es) es2.toList → (Instr.mapUpdate t (.map (some b)) vk vx).run P c.W = .ok () { c.W with heap := c.W.heap.setIfInBounds b (.map es2 cl2) } →
        ∃ c' s', (Instr.mapUpdate t (.map (some b)) vk vx).run P c.W = .ok () c'.W ∧ Ext c c' ∧ c'.Ok s' ∧ K s' := by
      intro es2 cl2 hr2 hrun
      have hT : Touch c.W { c.W with heap := c.W.heap.setIfInBounds b (.map es2 cl2) } b :=
        ⟨by simp, fun b' hb' => by simp [Array.getElem?_setIfInBounds_ne (Ne.symm hb')], rfl, rfl, rfl⟩
      have hx' := touch_ext hok hB hβ hT
      refine ⟨{ c with W := { c.W with heap := c.W.heap.setIfInBounds b (.map es2 cl2) } }, s.put f i (.mapo (mput vk x es)), hrun, hx', touch_ok hok hB hβ hT ⟨es2, cl2, by simp [hlt], by simpa using hr2.1, fun i e hi => ?_⟩, h⟩
      obtain ⟨e', g1, g2, g3⟩ := hr2.2 i e hi
      exact ⟨e', by simpa using g1, g2, hx'.rep g3⟩
    rcases mput_rel hkk hx cl es es'.toList 0 hrel hall with ⟨a1, a2⟩ | ⟨j, e', a1, a2, a3, a4⟩
    · refine fin (es'.push { key := vk, val := vx, born := cl }) (cl + 1) (by simpa using a2) ?_
      simp [Instr.mapUpdate, run_underlying' hu, MapKept.run_getObj_map hh, hc, MapKept.run_findKey hd a1, MapKept.run_setObj_map _ hh]
    · refine fin (es'.modify j fun e => { e with key := vk, val := vx }) cl ?_ ?_
      · have : (es'.modify j fun e => { e with key := vk, val := vx }).toList = es'.toList.set j { e' with key := vk, val := vx } := by
          apply List.ext_getElem?
          intro n
          rw [Array.getElem?_toList, Array.getElem?_modify, List.getElem?_set]
          by_cases hjn : j = n
          · subst hjn
            have hlt' : j < es'.toList.length := (List.getElem?_eq_some_iff.1 a2).1
            rw [if_pos rfl, if_pos rfl, if_pos hlt', ← Array.getElem?_toList, a2]; rfl
          · rw [if_neg hjn, if_neg hjn, Array.getElem?_toList]
        rw [this]; exact a4
      · have ha2 : es'[j]? = some e' := by simpa using a2
        have hks : (Instr.keyThatStays vk vk).run P c.W = .ok vk c.W := MapKept.run_keyThatStays hkk
        simp [Instr.mapUpdate, run_underlying' hu, MapKept.run_getObj_map hh, hc, MapKept.run_findKey hd a1, MapKept.run_setObj_map _ hh, ha2, a3, hks, a2]
end Go.Abs
end
section
/-
  An abstract machine over the model, part 7: one operation, a region, a body.
-/
namespace Go.Abs
open Go

/-- What a walk is about: the program, what its variables hold, how many slots the frame has, the round that it is in, what is deferred. -/
structure Ctx where
  P : Program
  G : Nat → Option D
  X : D → Value → Prop
  N : Nat
  r : Option Nat
  b : Nat

abbrev Env := Nat → D
def upd (e : Env) (t : Nat) (d : D) : Env := fun j => if j = t then d else e j
def put (e : Env) (t : Option Nat) (d : D) : Env :=
  match t with
  | some t => upd e t d
  | none => e
def ev (G : Nat → Option D) (e : Env) : Operand → D
  | .tmp t => e t
  | .const v => .v v
  | .global g => (G g).getD .any
  | .func f => .fn (.func f) []

def wideR (r : Option Nat) : Fence := { fn := fun _ => True, depth := none, alive := false, round := r }

/-- What is known of a configuration: what the program's variables hold; what else was said to read so. -/
structure GlobOk (M : Ctx) (c : Cfg) : Prop where
  g : ∀ g d, M.G g = some d → c.Rep d (.pointer (some ⟨g, 0, none⟩))
  x : ∀ d v, M.X d v → c.Rep d v
theorem GlobOk.ext {M : Ctx} {c c' : Cfg} (h : GlobOk M c) (hx : Ext c c') : GlobOk M c' := ⟨fun g d hg => hx.rep (h.g g d hg), fun d v hv => hx.rep (h.x d v hv)⟩
theorem GlobOk.ctx {M M' : Ctx} {c : Cfg} (hG : M.G = M'.G) (hX : ∀ d v, M.X d v → M'.X d v) (h : GlobOk M' c) : GlobOk M c := ⟨fun g d hg => h.g g d (hG ▸ hg), fun d v hv => h.x d v (hX d v hv)⟩

/-- A block that nothing owned and nothing frozen lies in. -/
def Alien (c : Cfg) (D : Nat) : Prop := D < c.W.heap.size ∧ ¬ c.K D ∧ ∀ f i cp, c.β f i ≠ some (D, cp)
/-- What is deferred: marks of blocks that nothing was put into, laid behind b. -/
def DefOk (b : Nat) (c : Cfg) (ds : List Deferred) : Prop :=
  b ≤ c.W.heap.size ∧ ∃ Ds : List Nat, ds = Ds.map (fun D => { target := .collected D, args := #[] }) ∧ Ds.Nodup ∧ ∀ D ∈ Ds, b ≤ D ∧ Alien c D ∧ c.W.heap[D]? = some (.deferred (some []))
theorem Alien.ext {c c' : Cfg} {D : Nat} (h : Alien c D) (hx : Ext c c') : Alien c' D := by
  obtain ⟨h1, h2, h3⟩ := h
  refine ⟨Nat.lt_of_lt_of_le h1 hx.size, fun hk => ?_, fun f i cp hb => ?_⟩
  · rcases hx.newK D hk with h | ⟨f, i, cp, h⟩ | h
    · exact h2 h
    · exact h3 _ _ _ h
    · omega
  · rcases hx.newβ f i D cp hb with ⟨f', i', cp', h⟩ | h
    · exact h3 _ _ _ h
    · omega
theorem DefOk.nil {b : Nat} {c : Cfg} (h : b ≤ c.W.heap.size) : DefOk b c [] := ⟨h, [], rfl, .nil, fun D h => by cases h⟩
theorem DefOk.ext {b : Nat} {c c' : Cfg} {ds : List Deferred} (h : DefOk b c ds) (hx : Ext c c') : DefOk b c' ds := by
  obtain ⟨h0, Ds, h1, h2, h3⟩ := h
  refine ⟨Nat.le_trans h0 hx.size, Ds, h1, h2, fun D hD => ?_⟩
  obtain ⟨g1, g2, g3⟩ := h3 D hD
  exact ⟨g1, g2.ext hx, (hx.frame D g2.1 g2.2.2).trans g3⟩

structure EnvRel (M : Ctx) (c : Cfg) (e : Env) (a : Act) : Prop where
  defers : DefOk M.b c a.defers
  size : a.tmps.size = M.N
  slot : ∀ t, c.Rep (e t) (a.tmps.getD t undef)
  glob : GlobOk M c

/-- A call, by what it does to every world. -/
def ACall (M : Ctx) (f : FuncId) (args : List D) (s : S) (K : D → S → Prop) : Prop :=
  ∀ (c : Cfg) (vals : List Value), c.Ok s → GlobOk M c → vals.length = args.length → (∀ i d, args[i]? = some d → c.Rep d (vals.getD i undef)) →
    Calls M.P f vals.toArray c.W fun x W' => ∃ (c' : Cfg) (v : Value) (d : D) (s' : S), x = .returned v ∧ c'.W = W' ∧ Ext c c' ∧ c'.Ok s' ∧ c'.Rep d v ∧ K d s'

/-- A call of a loop's yield. -/
def ARound (M : Ctx) (l : Nat) (args : List D) (s : S) (K : D → S → Prop) : Prop :=
  ∀ (c : Cfg) (vals : List Value), c.Ok s → GlobOk M c → vals.length = args.length → (∀ i d, args[i]? = some d → c.Rep d (vals.getD i undef)) →
    ∃ (fn : FuncId) (tmps : Array Value) (assign body : Code), (Instr.yield l vals.toArray).run M.P c.W = .ok (.round l fn tmps assign body) c.W ∧
      ∀ n, RoundIn (wideR none) n M.P l fn tmps assign body c.W fun x W' => ∃ (c' : Cfg) (v : Value) (d : D) (s' : S), x = .returned v ∧ c'.W = W' ∧ Ext c c' ∧ c'.Ok s' ∧ c'.Rep d v ∧ K d s'

def callable (P : Program) (g : FuncId) : Bool :=
  match P.funcs[g]? with
  | some fn => !(fn.name == "runtime.NumGoroutine") && fn.body.isSome
  | none => false

def pickD (q : Bool) (a b : D) : D :=
  match a, b with
  | .v (.bool x), .v (.bool y) => .v (.bool (cond q x y))
  | a, b => if q then a else b

def aCallOp (M : Ctx) (c : Call) (e : Env) (s : S) (K : D → S → Prop) : Prop :=
  match c.callee with
  | .builtin .len => aLen M.P (c.argTypes.getD 0 0) (ev M.G e (c.args.getD 0 (.const undef))) c.args.size c.argTypes.size s K
  | .builtin .append => c.args.size = 2 ∧ c.argTypes = #[c.argTypes.getD 0 0, c.argTypes.getD 0 0] ∧
      aAppend M.P (c.argTypes.getD 0 0) (ev M.G e (c.args.getD 0 (.const undef))) (ev M.G e (c.args.getD 1 (.const undef))) s K
  | .builtin .max => c.args.size = 2 ∧ aTwo true (ev M.G e (c.args.getD 0 (.const undef))) (ev M.G e (c.args.getD 1 (.const undef))) s K
  | .builtin .min => c.args.size = 2 ∧ aTwo false (ev M.G e (c.args.getD 0 (.const undef))) (ev M.G e (c.args.getD 1 (.const undef))) s K
  | .value f =>
    match ev M.G e f with
    | .fn (.func g) caps => callable M.P g = true ∧ ACall M g ((c.args.toList.map (ev M.G e)) ++ caps) s K
    | .fn (.yield l) caps => caps = [] ∧ ARound M l (c.args.toList.map (ev M.G e)) s K
    | _ => False
  | _ => False

def evO (G : Nat → Option D) (e : Env) : Option Operand → Option D
  | none => none
  | some x => some (ev G e x)
def AStep (M : Ctx) (op : Op) (e : Env) (s : S) (K : D → S → Prop) : Prop :=
  match op with
  | .move x => K (ev M.G e x) s
  | .assign x => K (ev M.G e x) s
  | .pick c a b =>
    match ev M.G e c with
    | .v (.bool q) => K (pickD q (ev M.G e a) (ev M.G e b)) s
    | _ => False
  | .alloc t => aAlloc M.P t s K
  | .box t x => aBox t (ev M.G e x) s K
  | .build t parts => ((parts.toList.map fun x => (x.1, ev M.G e x.2)) ≠ [] ∨ (tPlace M.P t 0).isSome = true) ∧ aBuild M.P t (parts.toList.map fun x => (x.1, ev M.G e x.2)) s K
  | .buildSlice t len parts => aBuildSlice M.P t len (parts.toList.map fun x => (x.1, ev M.G e x.2)) s K
  | .makeSlice t l c => aMake M.P t (ev M.G e l) (ev M.G e c) s K
  | .load t x => aLoad M.P t (ev M.G e x) s K
  | .store t p x => aStore M.P t (ev M.G e p) (ev M.G e x) s (K (.v undef))
  | .fieldAddr t x f => aFld M.P t (ev M.G e x) f s K
  | .indexAddr t x i => aIdx M.P t (ev M.G e x) (ev M.G e i) s K
  | .index t x i => aIndex M.P t (ev M.G e x) (ev M.G e i) s K
  | .slice t x lo hi mx => mx = none ∧ aSlice M.P t (ev M.G e x) (evO M.G e lo) (evO M.G e hi) s K
  | .binOp op t x y _ => aBin M.P op t (ev M.G e x) (ev M.G e y) s K
  | .unOp op _ x => aUn op (ev M.G e x) s K
  | .extract x i => aExtract (ev M.G e x) i s K
  | .makeFunc f first caps => first.size = 0 ∧ K (.fn f (caps.toList.map (ev M.G e))) s
  | .nilCheck x =>
    match ev M.G e x with
    | .mp f i k r c => K (.mp f i k r c) s
    | .rp k row off => K (.rp k row off) s
    | .fn (.func f) caps => K (.fn (.func f) caps) s
    | _ => False
  | .convert src dst x => aConv M.P src dst (ev M.G e x) s K
  | .call c => aCallOp M c e s K
  | .makeMap _ r => r = none ∧ aMap s K
  | .lookup t m k ok => aLook M.P t (ev M.G e m) (ev M.G e k) ok s K
  | .mapUpdate t m k v => aPut M.P t (ev M.G e m) (ev M.G e k) (ev M.G e v) s (K (.v undef))
  | .insert t m k v => aPut M.P t (ev M.G e m) (ev M.G e k) (ev M.G e v) s (K (.v undef))
  | _ => False

/-- The list of what is left of a region. -/
def ARun (M : Ctx) (all : Array Oper) (Q : Env → S → Prop) : List Oper → Env → S → Prop
  | [], e, s => Q e s
  | o :: os, e, s =>
    (∀ t, o.dst = some t → t < M.N) ∧
    match o.guard with
    | none => AStep M o.op e s fun d s' => ARun M all Q os (put e o.dst d) s'
    | some (j, want) =>
      match ((all[j]?).bind (·.dst)).map e with
      | some (.v (.bool b)) => if b = want then AStep M o.op e s fun d s' => ARun M all Q os (put e o.dst d) s' else ARun M all Q os (put e o.dst (.v undef)) s
      | some (.v (.tuple _)) => ARun M all Q os (put e o.dst (.v undef)) s
      | _ => False

/-- The rest of a region, as a word that hides nothing that could be reckoned yet. -/
def ARunC (M : Ctx) (all : Array Oper) (Q : Env → S → Prop) (os : List Oper) (e : Env) (t : Option Nat) (d : D) (s : S) : Prop := ARun M all Q os (put e t d) s

def AWp (M : Ctx) (c : Code) (Q : Exit → Env → S → Prop) (e : Env) (s : S) : Prop :=
  ∀ (cf : Cfg) (a : Act) (n : Nat), EnvRel M cf e a → cf.Ok s →
    c.wpIn (wideR M.r) n M.P (fun x a' W' => ∃ (cf' : Cfg) (e' : Env) (s' : S), cf'.W = W' ∧ Ext cf cf' ∧ EnvRel M cf' e' a' ∧ cf'.Ok s' ∧ Q x e' s') a cf.W

def thenA (wp : (Exit → Env → S → Prop) → Env → S → Prop) (Q : Exit → Env → S → Prop) : Exit → Env → S → Prop
  | .normal, e, s => wp Q e s
  | x, e, s => Q x e s
def blockA (id : Nat) (Q : Exit → Env → S → Prop) : Exit → Env → S → Prop
  | .exit id', e, s => if id' = id then Q .normal e s else Q (.exit id') e s
  | x, e, s => Q x e s

def noGotoA (Q : Exit → Env → S → Prop) : Exit → Env → S → Prop
  | .goto _, _, _ => False
  | x, e, s => Q x e s

def wpA (M : Ctx) : Code → (Exit → Env → S → Prop) → Env → S → Prop
  | .skip, Q, e, s => Q .normal e s
  | .seq a b, Q, e, s => wpA M a (thenA (wpA M b) Q) e s
  | .cond c a b, Q, e, s =>
    match ev M.G e c with
    | .v (.bool t) => if t then wpA M a Q e s else wpA M b Q e s
    | _ => False
  | .block id c, Q, e, s => wpA M c (blockA id Q) e s
  | .scope c, Q, e, s => wpA M c (noGotoA Q) e s
  | .exit id, Q, e, s => Q (.exit id) e s
  | .ret, Q, e, s => Q .ret e s
  | .label _, Q, e, s => Q .normal e s
  | .goto l, Q, e, s => Q (.goto l) e s
  | .region _ ops false, Q, e, s => ARun M ops (Q .normal) ops.toList e s
  | c, Q, e, s => AWp M c Q e s

end Go.Abs
end
section
/-
  An abstract machine over the model, part 8: what is reckoned of a body holds of its runs.
-/
namespace Go.Abs
open Go

theorem rep_ev {M : Ctx} {c : Cfg} {e : Env} {a : Act} (h : EnvRel M c e a) (x : Operand) : c.Rep (ev M.G e x) (a.eval x) := by
  cases x with
  | tmp t => exact h.slot t
  | const v => exact .v v
  | global g =>
    show c.Rep ((M.G g).getD .any) _
    cases hg : M.G g with
    | none => exact .any _
    | some d => exact h.glob.g g d hg
  | func f => exact Rep.fn (.func f) [] [] rfl (fun i d hd => by simp at hd)

theorem reps_ev {M : Ctx} {c : Cfg} {e : Env} {a : Act} (h : EnvRel M c e a) (xs : List Operand) (i : Nat) (d : D) (hd : (xs.map (ev M.G e))[i]? = some d) :
    c.Rep d ((xs.map a.eval).getD i undef) := by
  simp only [List.getElem?_map] at hd
  cases hx : xs[i]? with
  | none => simp [hx] at hd
  | some x =>
    simp only [hx, Option.map_some, Option.some.injEq] at hd
    subst hd
    simp only [List.getD_eq_getElem?_getD, List.getElem?_map, hx, Option.map_some, Option.getD_some]
    exact rep_ev h x

theorem parts_ev {M : Ctx} {c : Cfg} {e : Env} {a : Act} (h : EnvRel M c e a) (parts : Array (Nat × Operand)) :
    (parts.map fun (i, x) => (i, a.eval x)).toList.length = (parts.toList.map fun x => (x.1, ev M.G e x.2)).length ∧
    ∀ (j : Nat) (p : Nat × D) (q : Nat × Value), (parts.toList.map fun x => (x.1, ev M.G e x.2))[j]? = some p → (parts.map fun (i, x) => (i, a.eval x)).toList[j]? = some q → q.1 = p.1 ∧ c.Rep p.2 q.2 := by
  refine ⟨by simp, fun j p q hp hq => ?_⟩
  simp only [List.getElem?_map, Array.getElem?_toList, Array.getElem?_map] at hp hq
  cases hx : parts[j]? with
  | none => simp [hx] at hp
  | some x =>
    simp only [hx, Option.map_some, Option.some.injEq] at hp hq
    subst hp; subst hq
    exact ⟨rfl, rep_ev h x.2⟩

theorem pick_rep {c : Cfg} {q : Bool} {x y : D} {vx vy : Value} (hx : c.Rep x vx) (hy : c.Rep y vy) : c.Rep (pickD q x y) (if q = true then vx else vy) := by
  unfold pickD
  split
  · cases hx; cases hy; cases q <;> exact .v _
  · cases q <;> simp_all

/-- What an operation comes to. -/
def Fine (M : Ctx) (c : Cfg) (r : Result Next) (K : D → S → Prop) : Prop :=
  (∃ (c' : Cfg) (v : Value) (d : D) (s' : S), r = .ok (.value v) c'.W ∧ Ext c c' ∧ c'.Ok s' ∧ c'.Rep d v ∧ K d s') ∨
  (∃ (c' : Cfg) (s' : S), r = .ok .skip c'.W ∧ Ext c c' ∧ c'.Ok s' ∧ K (.v undef) s') ∨
  (∃ (f : FuncId) (vals : List Value) (args : List D) (s' : S), r = .ok (.enter f vals.toArray) c.W ∧ c.Ok s' ∧ vals.length = args.length ∧ (∀ i d, args[i]? = some d → c.Rep d (vals.getD i undef)) ∧ ACall M f args s' K) ∨
  (∃ (l : Nat) (fn : FuncId) (tmps : Array Value) (assign body : Code), r = .ok (.round l fn tmps assign body) c.W ∧ ∀ n, RoundIn (wideR none) n M.P l fn tmps assign body c.W fun x W' =>
    ∃ (c' : Cfg) (v : Value) (d : D) (s' : S), x = .returned v ∧ c'.W = W' ∧ Ext c c' ∧ c'.Ok s' ∧ c'.Rep d v ∧ K d s')

section
variable {M : Ctx} {c : Cfg} {K : D → S → Prop}
theorem Fine.value {m : Sem Value} (h : ∃ c' v d s', m.run M.P c.W = .ok v c'.W ∧ Ext c c' ∧ c'.Ok s' ∧ c'.Rep d v ∧ K d s') :
    Fine M c ((do pure (.value (← m)) : Sem Next).run M.P c.W) K := by
  obtain ⟨c', v, d, s', h1, h2⟩ := h
  exact .inl ⟨c', v, d, s', by simp [h1], h2⟩
theorem Fine.same {m : Sem Value} {s : S} (hok : c.Ok s) (h : ∃ v d, m.run M.P c.W = .ok v c.W ∧ c.Rep d v ∧ K d s) :
    Fine M c ((do pure (.value (← m)) : Sem Next).run M.P c.W) K := by
  obtain ⟨v, d, h1, h2, h3⟩ := h
  exact .value ⟨c, v, d, s, h1, Ext.refl c, hok, h2, h3⟩
end

theorem callFunc_run {P : Program} {w : World} {f : FuncId} {args : Array Value} (h : callable P f = true) : (callFunc f args).run P w = .ok (.enter f args) w := by
  unfold callable at h
  split at h
  · rename_i fn hf
    simp only [Bool.and_eq_true, Bool.not_eq_true'] at h
    have hb : fn.body.isNone = false := by
      cases hb : fn.body with
      | none => simp [hb] at h
      | some _ => rfl
    simp only [callFunc, Sem.run_bind, run_program, Result.andThen_ok, hf, h.1, hb, Bool.false_eq_true, if_false, Sem.run_pure]
  · cases h

theorem astep_fine {M : Ctx} {c : Cfg} {s : S} {o : Oper} {e : Env} {a : Act} {K : D → S → Prop} (hE : EnvRel M c e a) (hok : c.Ok s) (h : AStep M o.op e s K) :
    Fine M c ((execOp a.eval o).run M.P c.W) K := by
  cases hop : o.op with
  | move x =>
    rw [hop] at h
    simp only [execOp, hop]
    exact .inl ⟨c, _, _, s, rfl, Ext.refl c, hok, rep_ev hE x, h⟩
  | assign x =>
    rw [hop] at h
    simp only [execOp, hop]
    exact .inl ⟨c, _, _, s, rfl, Ext.refl c, hok, rep_ev hE x, h⟩
  | pick x y z =>
    rw [hop] at h
    simp only [AStep] at h
    split at h <;> try (exact h.elim)
    rename_i q hq
    have hx := rep_ev hE x
    rw [hq] at hx
    have hb : a.eval x = .bool q := by generalize a.eval x = v at hx; cases hx; rfl
    simp only [execOp, hop, hb, asBool, Sem.run_bind, Sem.run_pure, Result.andThen_ok]
    exact .inl ⟨c, _, _, s, rfl, Ext.refl c, hok, pick_rep (rep_ev hE y) (rep_ev hE z), h⟩
  | alloc t =>
    rw [hop] at h
    simp only [execOp, hop]
    exact .value (alloc_fine hok h)
  | box t x =>
    rw [hop] at h
    simp only [execOp, hop]
    exact .value (box_fine hok (rep_ev hE x) h)
  | build t parts =>
    rw [hop] at h
    simp only [execOp, hop]
    obtain ⟨h1, h2⟩ := parts_ev hE parts
    exact .same hok (build_fine h1 h2 h.2 h.1)
  | buildSlice t len parts =>
    rw [hop] at h
    simp only [execOp, hop]
    obtain ⟨h1, h2⟩ := parts_ev hE parts
    exact .value (buildSlice_fine hok h1 h2 h)
  | makeSlice t l cp =>
    rw [hop] at h
    simp only [execOp, hop]
    exact .value (make_fine hok (rep_ev hE l) (rep_ev hE cp) h)
  | load t x =>
    rw [hop] at h
    simp only [execOp, hop]
    exact .same hok (load_fine hok (rep_ev hE x) h)
  | store t p x =>
    rw [hop] at h
    simp only [execOp, hop]
    obtain ⟨c', s', h1, h2, h3, h4⟩ := store_fine hok (rep_ev hE p) (rep_ev hE x) h
    exact .inr (.inl ⟨c', s', by simp [h1], h2, h3, h4⟩)
  | fieldAddr t x f =>
    rw [hop] at h
    simp only [execOp, hop]
    exact .same hok (fld_fine (rep_ev hE x) h)
  | indexAddr t x i =>
    rw [hop] at h
    simp only [execOp, hop]
    exact .same hok (idx_fine (rep_ev hE x) (rep_ev hE i) h)
  | index t x i =>
    rw [hop] at h
    simp only [execOp, hop]
    exact .same hok (index_fine (rep_ev hE x) (rep_ev hE i) h)
  | slice t x lo hi mx =>
    rw [hop] at h
    simp only [execOp, hop]
    obtain ⟨rfl, h⟩ := h
    have hb : ∀ o : Option Operand, boundOk c (evO M.G e o) (o.map a.eval) := fun o => by
      cases o with
      | none => exact trivial
      | some o => exact rep_ev hE o
    exact .same hok (slice_fine (rep_ev hE x) (hb lo) (hb hi) h)
  | binOp op t x y t' =>
    rw [hop] at h
    simp only [execOp, hop]
    exact .same hok (bin_fine (rep_ev hE x) (rep_ev hE y) h)
  | unOp op t x =>
    rw [hop] at h
    simp only [execOp, hop]
    exact .same hok (un_fine (rep_ev hE x) h)
  | extract x i =>
    rw [hop] at h
    simp only [execOp, hop]
    exact .same hok (extract_fine (rep_ev hE x) h)
  | makeFunc f first caps =>
    rw [hop] at h
    simp only [execOp, hop]
    obtain ⟨h1, h2⟩ := h
    have hf : first.map a.eval = #[] := by
      have : first = #[] := Array.eq_empty_of_size_eq_zero h1
      rw [this]; simp
    refine .inl ⟨c, .func f #[] (caps.toList.map a.eval).toArray, .fn f (caps.toList.map (ev M.G e)), s, ?_, Ext.refl c, hok, .fn f _ _ (by simp) (fun i d hd => reps_ev hE caps.toList i d hd), h2⟩
    simp only [Instr.makeFunc, hf, Sem.run_bind, Sem.run_pure, Result.andThen_ok]
    congr 3
    apply Array.ext'; simp
  | nilCheck x =>
    rw [hop] at h
    simp only [AStep] at h
    have hx := rep_ev hE x
    split at h <;> try (exact h.elim)
    all_goals
      rename_i hq
      rw [hq] at hx
      generalize hv : a.eval x = v at hx
      have hx' := hx
      cases hx'
      refine .inl ⟨c, _, _, s, ?_, Ext.refl c, hok, hx, h⟩
      simp [execOp, hop, hv]
  | convert src dst x =>
    rw [hop] at h
    simp only [execOp, hop]
    exact .same hok (conv_fine (rep_ev hE x) h)
  | call cl =>
    rw [hop] at h
    simp only [AStep, aCallOp] at h
    split at h <;> try (exact h.elim)
    · rename_i hc
      obtain ⟨v, d, h1, h2, h3⟩ := len_fine (ts := cl.argTypes) (ty := o.type) (xs := cl.args.map a.eval) (d := ev M.G e (cl.args.getD 0 (.const undef))) (by
        have : (cl.args.map a.eval).getD 0 undef = a.eval (cl.args.getD 0 (.const undef)) := by
          simp only [Array.getD_eq_getD_getElem?, Array.getElem?_map]
          cases cl.args[0]? <;> rfl
        rw [this]; exact rep_ev hE _) (by simpa using h)
      refine .inl ⟨c, v, d, s, ?_, Ext.refl c, hok, h2, h3⟩
      simp [execOp, hop, resolve, hc, invoke, builtin, h1]
    · rename_i hc
      obtain ⟨hn, ht, h⟩ := h
      obtain ⟨x0, x1, harg⟩ : ∃ x0 x1, cl.args = #[x0, x1] := by
        refine ⟨cl.args[0], cl.args[1], ?_⟩
        apply Array.ext
        · simpa using hn
        · intro i h1 h2
          simp at h2
          have : i = 0 ∨ i = 1 := by omega
          rcases this with rfl | rfl <;> rfl
      have e0 : cl.args.getD 0 (.const undef) = x0 := by rw [harg]; rfl
      have e1 : cl.args.getD 1 (.const undef) = x1 := by rw [harg]; rfl
      rw [e0, e1] at h
      obtain ⟨c', v, d, s', h1, h2, h3, h4, h5⟩ := append_fine (ty := o.type) hok (rep_ev hE x0) (rep_ev hE x1) h
      refine .inl ⟨c', v, d, s', ?_, h2, h3, h4, h5⟩
      have hm : cl.args.map a.eval = #[a.eval x0, a.eval x1] := by rw [harg]; simp
      rw [← ht] at h1
      simp [execOp, hop, resolve, hc, invoke, builtin, hm, h1]
    · rename_i hc
      obtain ⟨hn, h⟩ := h
      obtain ⟨x0, x1, harg⟩ : ∃ x0 x1, cl.args = #[x0, x1] := by
        refine ⟨cl.args[0], cl.args[1], ?_⟩
        apply Array.ext
        · simpa using hn
        · intro i h1 h2
          simp at h2
          have : i = 0 ∨ i = 1 := by omega
          rcases this with rfl | rfl <;> rfl
      have e0 : cl.args.getD 0 (.const undef) = x0 := by rw [harg]; rfl
      have e1 : cl.args.getD 1 (.const undef) = x1 := by rw [harg]; rfl
      rw [e0, e1] at h
      obtain ⟨v, d, h1, h2, h3⟩ := max_fine (P := M.P) (ts := cl.argTypes) (ty := o.type) (rep_ev hE x0) (rep_ev hE x1) h
      refine .inl ⟨c, v, d, s, ?_, Ext.refl c, hok, h2, h3⟩
      have hm : cl.args.map a.eval = #[a.eval x0, a.eval x1] := by rw [harg]; simp
      simp [execOp, hop, resolve, hc, invoke, builtin, hm, h1]
    · rename_i hc
      obtain ⟨hn, h⟩ := h
      obtain ⟨x0, x1, harg⟩ : ∃ x0 x1, cl.args = #[x0, x1] := by
        refine ⟨cl.args[0], cl.args[1], ?_⟩
        apply Array.ext
        · simpa using hn
        · intro i h1 h2
          simp at h2
          have : i = 0 ∨ i = 1 := by omega
          rcases this with rfl | rfl <;> rfl
      have e0 : cl.args.getD 0 (.const undef) = x0 := by rw [harg]; rfl
      have e1 : cl.args.getD 1 (.const undef) = x1 := by rw [harg]; rfl
      rw [e0, e1] at h
      obtain ⟨v, d, h1, h2, h3⟩ := min_fine (P := M.P) (ts := cl.argTypes) (ty := o.type) (rep_ev hE x0) (rep_ev hE x1) h
      refine .inl ⟨c, v, d, s, ?_, Ext.refl c, hok, h2, h3⟩
      have hm : cl.args.map a.eval = #[a.eval x0, a.eval x1] := by rw [harg]; simp
      simp [execOp, hop, resolve, hc, invoke, builtin, hm, h1]
    · rename_i f hc
      split at h <;> try (exact h.elim)
      · rename_i g caps hf
        obtain ⟨h1, h2⟩ := h
        have hx := rep_ev hE f
        rw [hf] at hx
        generalize hv : a.eval f = v at hx
        cases hx with
        | fn f' cs xs hl hr =>
          refine .inr (.inr (.inl ⟨g, (cl.args.toList.map a.eval) ++ xs, _, s, ?_, hok, by simp [hl], ?_, h2⟩))
          · have e1 : cl.args.map a.eval ++ xs.toArray = ((cl.args.toList.map a.eval) ++ xs).toArray := by
              apply Array.ext'; simp
            simp [execOp, hop, resolve, hc, Deferred.ofValue, hv, invoke, callFunc_run h1, e1]
          · intro i d hd
            by_cases hi : i < (cl.args.toList.map (ev M.G e)).length
            · rw [List.getElem?_append_left hi] at hd
              have := reps_ev hE _ i d hd
              rw [append_getD, if_pos (by simpa using hi)]
              exact this
            · rw [List.getElem?_append_right (by omega)] at hd
              rw [append_getD, if_neg (by simpa using hi)]
              have := hr _ d hd
              simpa using this
      · rename_i l caps hf
        obtain ⟨rfl, h2⟩ := h
        have hx := rep_ev hE f
        rw [hf] at hx
        generalize hv : a.eval f = v at hx
        cases hx with
        | fn f' cs xs hl hr =>
          have hxs : xs = [] := List.eq_nil_of_length_eq_zero (by simpa using hl)
          subst hxs
          obtain ⟨fn, tmps, assign, body, g1, g2⟩ := h2 c (cl.args.toList.map a.eval) hok hE.glob (by simp) (reps_ev hE cl.args.toList)
          refine .inr (.inr (.inr ⟨l, fn, tmps, assign, body, ?_, g2⟩))
          have e1 : cl.args.map a.eval = (cl.args.toList.map a.eval).toArray := by
            apply Array.ext'; simp
          rw [← e1] at g1
          simp [execOp, hop, resolve, hc, Deferred.ofValue, hv, invoke, g1]
  | makeMap t r =>
    rw [hop] at h
    obtain ⟨rfl, h⟩ := h
    simp only [execOp, hop]
    exact .value (map_fine hok h)
  | lookup t m k ok =>
    rw [hop] at h
    simp only [execOp, hop]
    exact .same hok (look_fine hok (rep_ev hE m) (rep_ev hE k) h)
  | mapUpdate t m k x =>
    rw [hop] at h
    simp only [execOp, hop]
    obtain ⟨c', s', h1, h2, h3, h4⟩ := put_fine (P := M.P) hok (rep_ev hE m) (rep_ev hE k) (rep_ev hE x) h
    exact .inr (.inl ⟨c', s', by simp [h1], h2, h3, h4⟩)
  | insert t m k x =>
    rw [hop] at h
    simp only [execOp, hop]
    obtain ⟨c', s', h1, h2, h3, h4⟩ := put_fine (P := M.P) hok (rep_ev hE m) (rep_ev hE k) (rep_ev hE x) h
    exact .inr (.inl ⟨c', s', by simp [h1], h2, h3, h4⟩)
  | _ => rw [hop] at h; exact h.elim

theorem AStep.not_defer {M : Ctx} {op : Op} {e : Env} {s : S} {K : D → S → Prop} (h : AStep M op e s K) (c : Call) : op ≠ .defer c := by
  rintro rfl; exact h

theorem calls_wideR {n : Nat} {P : Program} {r : Option Nat} {f : FuncId} {args : Array Value} {w : World} {R : Ending → World → Prop} (h : Calls P f args w R) : CallsIn (wideR r) n P f args w R :=
  (callsIn_wide (n := n)).2 h

theorem EnvRel.put {M : Ctx} {c c' : Cfg} {e : Env} {a : Act} (h : EnvRel M c e a) (hx : Ext c c') {t : Option Nat} (ht : ∀ i, t = some i → i < M.N) {d : D} {v : Value} (hd : c'.Rep d v) :
    EnvRel M c' (Abs.put e t d) (a.put t v) := by
  have hbase : ∀ i, c'.Rep (e i) (a.tmps.getD i undef) := fun i => hx.rep (h.slot i)
  have hg : GlobOk M c' := h.glob.ext hx
  cases t with
  | none => exact ⟨h.defers.ext hx, h.size, hbase, hg⟩
  | some t =>
    have hlt := ht t rfl
    refine ⟨h.defers.ext hx, by simp [Act.put, h.size], fun i => ?_, hg⟩
    show c'.Rep (if i = t then d else e i) ((a.tmps.setIfInBounds t v).getD i undef)
    by_cases hi : i = t
    · subst hi
      rw [if_pos rfl]
      have : i < a.tmps.size := by rw [h.size]; exact hlt
      have e1 : (a.tmps.setIfInBounds i v).getD i undef = v := by simp [Array.getD, this]
      rw [e1]; exact hd
    · rw [if_neg hi]
      have e1 : (a.tmps.setIfInBounds t v).getD i undef = a.tmps.getD i undef := by
        rw [Array.getD_eq_getD_getElem?, Array.getD_eq_getD_getElem?, Array.getElem?_setIfInBounds_ne (Ne.symm hi)]
      rw [e1]; exact hbase i

theorem EnvRel.ext {M : Ctx} {c c' : Cfg} {e : Env} {a : Act} (h : EnvRel M c e a) (hx : Ext c c') : EnvRel M c' e a :=
  ⟨h.defers.ext hx, h.size, fun i => hx.rep (h.slot i), h.glob.ext hx⟩

/-- One operation, in the model's own terms. -/
theorem astep_wp {M : Ctx} {c : Cfg} {s : S} {o : Oper} {e : Env} {a : Act} {n : Nat} {K : D → S → Prop} {next : Act → World → Prop} {Q : Exit → Act → World → Prop} (hE : EnvRel M c e a) (hok : c.Ok s) (h : AStep M o.op e s K)
    (ht : ∀ i, o.dst = some i → i < M.N)
    (hk : ∀ c' d s' a', Ext c c' → EnvRel M c' (Abs.put e o.dst d) a' → c'.Ok s' → K d s' → next a' c'.W) : o.wpIn (wideR M.r) n M.P a c.W next Q := by
  refine ⟨fun _ _ => trivial, ?_⟩
  rw [Oper.semAt_eq _ _ _ (fun c => h.not_defer c)]
  rcases astep_fine hE hok h with ⟨c', v, d, s', h1, h2, h3, h4, h5⟩ | ⟨c', s', h1, h2, h3, h4⟩ | ⟨f, vals, args, s', h1, h2, h3, h4, h5⟩ | ⟨l, fn, tmps, assign, body, h1, h2⟩
  · rw [h1, Oper.uponIn_value]
    exact hk c' d s' _ h2 (hE.put h2 ht h4) h3 h5
  · rw [h1, Oper.uponIn_skip]
    exact hk c' _ s' _ h2 (hE.put h2 ht (.v undef)) h3 h4
  · rw [h1, Oper.uponIn_enter]
    refine ⟨fun hd => by simp [wideR] at hd, calls_wideR ?_⟩
    refine (h5 c vals h2 hE.glob h3 h4).mono ?_
    rintro x W' ⟨c', v, d, s', rfl, rfl, h6, h7, h8, h9⟩
    exact hk c' d s' _ h6 (hE.put h6 ht h8) h7 h9
  · rw [h1, Oper.uponIn_round]
    refine ⟨fun hd => by simp [wideR] at hd, RoundIn.mono (F := wideR none) (h2 _) ?_⟩
    rintro x W' ⟨c', v, d, s', rfl, rfl, h6, h7, h8, h9⟩
    exact hk c' d s' _ h6 (hE.put h6 ht h8) h7 h9

theorem arun_wp {M : Ctx} {all : Array Oper} {n : Nat} {Q : Env → S → Prop} {Q' : Exit → Act → World → Prop} {c0 : Cfg}
    (hQ : ∀ c a e s, Ext c0 c → EnvRel M c e a → c.Ok s → Q e s → Q' .normal a c.W) :
    ∀ (os : List Oper) (pre : Nat) (c : Cfg) (e : Env) (s : S) (a : Act), (∀ j, all[pre + j]? = os[j]?) → Ext c0 c → EnvRel M c e a → c.Ok s → ARun M all Q os e s →
      wpOpsIn (wideR M.r) n M.P all Q' (List.range' pre os.length) a c.W := by
  intro os
  induction os with
  | nil => intro pre c e s a _ hx hE hok h; exact hQ c a e s hx hE hok h
  | cons o os ih =>
    intro pre c e s a hall hx hE hok h
    have ho : all[pre]? = some o := by have := hall 0; simpa using this
    have hall' : ∀ j, all[pre + 1 + j]? = os[j]? := fun j => by have := hall (j + 1); simpa [Nat.add_assoc, Nat.add_comm 1 j] using this
    obtain ⟨ht, h⟩ := h
    simp only [List.length_cons, List.range'_succ, wpOpsIn, ho]
    have hskip : ARun M all Q os (Abs.put e o.dst (.v undef)) s → wpOpsIn (wideR M.r) n M.P all Q' (List.range' (pre + 1) os.length) (a.put o.dst undef) c.W :=
      fun h' => ih (pre + 1) c _ s _ hall' hx (hE.put (Ext.refl c) ht (.v undef)) hok h'
    have hstep : AStep M o.op e s (fun d s' => ARun M all Q os (Abs.put e o.dst d) s') → o.wpIn (wideR M.r) n M.P a c.W (wpOpsIn (wideR M.r) n M.P all Q' (List.range' (pre + 1) os.length)) Q' :=
      fun h' => astep_wp hE hok h' ht fun c' d s' a' g1 g2 g3 g4 => ih (pre + 1) c' _ s' a' hall' (hx.trans g1) g2 g3 g4
    cases hg : o.guard with
    | none =>
      simp only [hg] at h
      rw [if_pos (by simp [Region.wanted, hg])]
      exact hstep h
    | some jw =>
      obtain ⟨j, want⟩ := jw
      simp only [hg] at h
      cases hj : (all[j]?).bind (·.dst) with
      | none => simp [hj] at h
      | some t =>
        simp only [hj, Option.map_some] at h
        have hslot := hE.slot t
        have hy : yielded all a.tmps j = match a.tmps[t]? with | some (.bool b) => some b | _ => none := by
          simp only [yielded, hj, Option.bind_some]
          cases a.tmps[t]? with
          | none => rfl
          | some v => cases v <;> rfl
        split at h
        · rename_i b he
          simp only [Option.some.injEq] at he
          rw [he] at hslot
          have hv : a.tmps.getD t undef = .bool b := by generalize a.tmps.getD t undef = v at hslot; cases hslot; rfl
          have hv' : a.tmps[t]? = some (.bool b) := by
            rw [Array.getD_eq_getD_getElem?] at hv
            cases hq : a.tmps[t]? with
            | none => simp [hq, undef] at hv
            | some v => simpa [hq] using hv
          rw [hv'] at hy
          simp only at hy
          by_cases hb : b = want
          · rw [if_pos hb] at h
            rw [if_pos (by simp [Region.wanted, hg, hy, hb])]
            exact hstep h
          · rw [if_neg hb] at h
            rw [if_neg (by simp [Region.wanted, hg, hy, hb])]
            exact ⟨fun _ _ => trivial, hskip h⟩
        · rename_i vs he
          simp only [Option.some.injEq] at he
          rw [he] at hslot
          have hv : ∀ v, a.tmps[t]? = some v → v = .tuple vs := by
            intro v hq
            rw [Array.getD_eq_getD_getElem?, hq] at hslot
            simp only [Option.getD_some] at hslot
            cases hslot; rfl
          have hy' : yielded all a.tmps j = none := by
            rw [hy]
            cases hq : a.tmps[t]? with
            | none => rfl
            | some v => rw [hv v hq]
          rw [if_neg (by simp [Region.wanted, hg, hy'])]
          exact ⟨fun _ _ => trivial, hskip h⟩
        · exact h.elim

theorem Ext.of_eq {c c' : Cfg} (h : c = c') : Ext c c' := h ▸ Ext.refl c

theorem AWp.mono {M : Ctx} {c : Code} {Q Q' : Exit → Env → S → Prop} {e : Env} {s : S} (h : AWp M c Q e s) (hq : ∀ x e s, Q x e s → Q' x e s) : AWp M c Q' e s :=
  fun cf a n hE hok => wpIn_mono (h cf a n hE hok) fun x _ _ ⟨cf', e', s', h1, h2, h3, h4, h5⟩ => ⟨cf', e', s', h1, h2, h3, h4, hq x e' s' h5⟩

theorem awp_seq {M : Ctx} {x y : Code} {Q : Exit → Env → S → Prop} {e : Env} {s : S} (h : AWp M x (thenA (AWp M y) Q) e s) : AWp M (.seq x y) Q e s := by
  intro cf a n hE hok
  refine wpIn_seq (wpIn_mono (h cf a n hE hok) ?_)
  rintro ex a' W' ⟨cf', e', s', rfl, h2, h3, h4, h5⟩
  cases ex with
  | normal =>
    refine wpIn_mono (h5 cf' a' n h3 h4) ?_
    rintro ex2 a2 W2 ⟨cf2, e2, s2, rfl, g2, g3, g4, g5⟩
    exact ⟨cf2, e2, s2, rfl, h2.trans g2, g3, g4, g5⟩
  | _ => exact ⟨cf', e', s', rfl, h2, h3, h4, h5⟩

theorem awp_block {M : Ctx} {id : Nat} {c : Code} {Q : Exit → Env → S → Prop} {e : Env} {s : S} (h : AWp M c (blockA id Q) e s) : AWp M (.block id c) Q e s := by
  intro cf a n hE hok
  refine wpIn_block (wpIn_mono (h cf a n hE hok) ?_)
  rintro ex a' W' ⟨cf', e', s', rfl, h2, h3, h4, h5⟩
  cases ex with
  | exit id' =>
    simp only [blockA] at h5
    simp only [Exit.inBlock]
    by_cases hid : id' = id
    · rw [if_pos hid] at h5 ⊢; exact ⟨cf', e', s', rfl, h2, h3, h4, h5⟩
    · rw [if_neg hid] at h5 ⊢; exact ⟨cf', e', s', rfl, h2, h3, h4, h5⟩
  | _ => exact ⟨cf', e', s', rfl, h2, h3, h4, h5⟩

section
variable {P : Program} {F : Fence} {n : Nat} {b : Frame} {a : Act} {k : List Item} {cs : List Frame} {w : World} {Q : Exit → Act → World → Prop}
theorem stepR_scope {c : Code} : step P (lone (b.atR a (.code (.scope c) :: k)) cs w) = .next (lone (b.atR a (.code c :: .inScope c :: k)) cs w) :=
  step_lone_go (by simp [stepG, stepG.exec, Frame.atR])
theorem stepR_inScope {c : Code} : step P (lone (b.atR a (.inScope c :: k)) cs w) = .next (lone (b.atR a k) cs w) :=
  step_lone_go (by simp [stepG, stepG.exec, Frame.atR])
def noGotoW (Q : Exit → Act → World → Prop) : Exit → Act → World → Prop
  | .goto _, _, _ => False
  | x, a, w => Q x a w
theorem wpIn_scope {c : Code} (h : c.wpIn F n P (noGotoW Q) a w) : (Code.scope c).wpIn F n P Q a w := by
  intro b k cs hro hb hr
  have h0 : (lone (b.atR a (.code (.scope c) :: k)) cs w).fenced P F := fenced_calm hb hr rfl
  obtain ⟨e, a₁, w₁, hq, harr⟩ := h b (.inScope c :: k) cs hro hb hr
  cases e with
  | normal => exact ⟨.normal, a₁, w₁, hq, .head h0 stepR_scope (StepsIn.trans harr (.one (fenced_calm hb hr rfl) stepR_inScope))⟩
  | exit id =>
    have hx : exitTo id (.inScope c :: k) = exitTo id k := by simp [exitTo]
    exact ⟨_, a₁, w₁, hq, fun k' hk => .head h0 stepR_scope (harr.1 k' (by rw [hx]; exact hk)),
      fun hr' hk => let ⟨k₁, h1, h2⟩ := harr.2 hr' (by rw [hx]; exact hk); ⟨k₁, h1, .head h0 stepR_scope h2⟩⟩
  | goto l => exact hq.elim
  | ret => exact ⟨_, a₁, w₁, hq, .of_steps (.one h0 stepR_scope) harr⟩
  | panic ch => exact ⟨_, a₁, w₁, hq, .of_steps (.one h0 stepR_scope) harr⟩
  | outgrown => exact ⟨_, a₁, w₁, hq, .of_steps (.one h0 stepR_scope) harr⟩
end
theorem awp_scope {M : Ctx} {c : Code} {Q : Exit → Env → S → Prop} {e : Env} {s : S} (h : AWp M c (noGotoA Q) e s) : AWp M (.scope c) Q e s := by
  intro cf a n hE hok
  refine wpIn_scope (wpIn_mono (h cf a n hE hok) ?_)
  rintro ex a' W' ⟨cf', e', s', rfl, h2, h3, h4, h5⟩
  cases ex with
  | goto l => exact h5.elim
  | _ => exact ⟨cf', e', s', rfl, h2, h3, h4, h5⟩

theorem awp_now {M : Ctx} {c : Code} {Q : Exit → Env → S → Prop} {e : Env} {s : S} {x : Exit} (hw : ∀ (n : Nat) (Q' : Exit → Act → World → Prop) (a : Act) (w : World), Q' x a w → c.wpIn (wideR M.r) n M.P Q' a w) (h : Q x e s) :
    AWp M c Q e s := fun cf a n hE hok => hw n _ a cf.W ⟨cf, e, s, rfl, Ext.refl cf, hE, hok, h⟩

theorem wpA_sound {M : Ctx} : ∀ (c : Code) (Q : Exit → Env → S → Prop) (e : Env) (s : S), wpA M c Q e s → AWp M c Q e s
  | .skip, Q, e, s, h => awp_now (fun _ _ _ _ h => wpIn_skip h) h
  | .seq a b, Q, e, s, h => by
    refine awp_seq ((wpA_sound a _ e s h).mono ?_)
    intro x e s h
    cases x with
    | normal => exact wpA_sound b Q e s h
    | _ => exact h
  | .cond x a b, Q, e, s, h => by
    simp only [wpA] at h
    split at h <;> try (exact h.elim)
    rename_i t ht
    intro cf ac n hE hok
    have hx := rep_ev hE x
    rw [ht] at hx
    have hb : ac.eval x = .bool t := by generalize ac.eval x = v at hx; cases hx; rfl
    refine wpIn_cond hb ?_
    cases t with
    | true => exact wpA_sound a Q e s (by simpa using h) cf ac n hE hok
    | false => exact wpA_sound b Q e s (by simpa using h) cf ac n hE hok
  | .block id c, Q, e, s, h => awp_block (wpA_sound c _ e s h)
  | .exit id, Q, e, s, h => awp_now (fun _ _ _ _ h => wpIn_exit h) h
  | .ret, Q, e, s, h => awp_now (fun _ _ _ _ h => wpIn_ret h) h
  | .label l, Q, e, s, h => awp_now (fun _ _ _ _ h => wpIn_label h) h
  | .goto l, Q, e, s, h => awp_now (fun _ _ _ _ h => wpIn_goto h) h
  | .region id ops false, Q, e, s, h => by
    intro cf a n hE hok
    refine wpIn_region ?_
    have := arun_wp (n := n) (M := M) (all := ops) (Q := Q .normal) (c0 := cf) (Q' := fun x a' W' => ∃ (cf' : Cfg) (e' : Env) (s' : S), cf'.W = W' ∧ Ext cf cf' ∧ EnvRel M cf' e' a' ∧ cf'.Ok s' ∧ Q x e' s')
      (fun c a e s h1 h2 h3 h4 => ⟨c, e, s, rfl, h1, h2, h3, h4⟩) ops.toList 0 cf e s a (fun j => by simp) (Ext.refl cf) hE hok h
    rwa [Array.length_toList, ← List.range_eq_range'] at this
  | .region id ops true, Q, e, s, h => h
  | .loop c, Q, e, s, h => h
  | .rangeFunc _ _ _ _, Q, e, s, h => h
  | .scope c, Q, e, s, h => awp_scope (wpA_sound c _ e s h)
  | .refuse w, Q, e, s, h => h

end Go.Abs
end
section
/-
  An abstract machine over the model, part 9: loops; functions; what a call hands back is frozen.
-/
namespace Go.Abs
open Go

/-! ### Loops -/

def loopA (Inv : Nat → Env → S → Prop) (n : Nat) (Q : Exit → Env → S → Prop) : Exit → Env → S → Prop
  | .normal, e, s => ∃ m, m < n ∧ Inv m e s
  | x, e, s => Q x e s

theorem awp_loop {M : Ctx} {c : Code} {Q : Exit → Env → S → Prop} (Inv : Nat → Env → S → Prop) (round : ∀ n e s, Inv n e s → AWp M c (loopA Inv n Q) e s) {n : Nat} {e : Env} {s : S} (h : Inv n e s) :
    AWp M (.loop c) Q e s := by
  intro cf a n0 hE hok b k cs hro hb hr
  have key : ∀ (n : Nat) (cf : Cfg) (e : Env) (s : S) (a : Act), Inv n e s → EnvRel M cf e a → cf.Ok s →
      ∃ x a' w', (∃ (cf' : Cfg) (e' : Env) (s' : S), cf'.W = w' ∧ Ext cf cf' ∧ EnvRel M cf' e' a' ∧ cf'.Ok s' ∧ Q x e' s') ∧
        ArrivesIn (Machine.fenced M.P (wideR M.r)) M.P (lone (b.atR a (.code c :: .inLoop c :: k)) cs cf.W) b k cs x a' w' := by
    intro n
    induction n using Nat.strongRecOn with
    | _ n ih =>
      intro cf e s a hI hE hok
      obtain ⟨x, a₁, w₁, ⟨cf1, e1, s1, rfl, h2, h3, h4, h5⟩, harr⟩ := round n e s hI cf a n0 hE hok b (.inLoop c :: k) cs hro hb hr
      cases x with
      | normal =>
        obtain ⟨m, hm, hI1⟩ := h5
        obtain ⟨x2, a2, w2, ⟨cf2, e2, s2, rfl, g2, g3, g4, g5⟩, harr2⟩ := ih m hm cf1 e1 s1 a₁ hI1 h3 h4
        exact ⟨x2, a2, cf2.W, ⟨cf2, e2, s2, rfl, h2.trans g2, g3, g4, g5⟩, .of_steps (StepsIn.trans harr (.one (fenced_calm hb hr rfl) stepR_inLoop)) harr2⟩
      | exit id => exact ⟨_, a₁, _, ⟨cf1, e1, s1, rfl, h2, h3, h4, h5⟩, .pass (x := .inLoop c) rfl (fun _ _ => .inl (by simp)) harr⟩
      | goto l => exact ⟨_, a₁, _, ⟨cf1, e1, s1, rfl, h2, h3, h4, h5⟩, .pass (x := .inLoop c) rfl (fun _ _ => .inl (by simp)) harr⟩
      | ret => exact ⟨_, a₁, _, ⟨cf1, e1, s1, rfl, h2, h3, h4, h5⟩, .pass (x := .inLoop c) rfl (fun _ _ => .inl (by simp)) harr⟩
      | panic ch => exact ⟨_, a₁, _, ⟨cf1, e1, s1, rfl, h2, h3, h4, h5⟩, .pass (x := .inLoop c) rfl (fun _ _ => .inl (by simp)) harr⟩
      | outgrown => exact ⟨_, a₁, _, ⟨cf1, e1, s1, rfl, h2, h3, h4, h5⟩, .pass (x := .inLoop c) rfl (fun _ _ => .inl (by simp)) harr⟩
  obtain ⟨x, a', w', hq, harr⟩ := key n cf e s a h hE hok
  exact ⟨x, a', w', hq, .of_steps (.one (fenced_calm hb hr rfl) stepR_loop) harr⟩

/-- A loop, with the body reckoned. -/
theorem awp_loopA {M : Ctx} {c : Code} {Q : Exit → Env → S → Prop} (Inv : Nat → Env → S → Prop) (round : ∀ n e s, Inv n e s → wpA M c (loopA Inv n Q) e s) {n : Nat} {e : Env} {s : S} (h : Inv n e s) :
    AWp M (.loop c) Q e s := awp_loop Inv (fun n e s hI => wpA_sound c _ e s (round n e s hI)) h

/-! ### Functions -/

/-- The results of a function, one behind the other. -/
def resD (M : Ctx) : List ResultVar → Env → S → (List D → Prop) → Prop
  | [], _, _, K => K []
  | .tmp t :: rs, e, s, K => resD M rs e s fun ds => K (e t :: ds)
  | .cell t ty :: rs, e, s, K => aLoad M.P ty (e t) s fun d _ => resD M rs e s fun ds => K (d :: ds)

def oneOr : List D → D
  | [d] => d
  | ds => .tup ds

def retA (M : Ctx) (rs : List ResultVar) (K : D → S → Prop) : Exit → Env → S → Prop
  | .normal, e, s => resD M rs e s fun ds => K (oneOr ds) s
  | .ret, e, s => resD M rs e s fun ds => K (oneOr ds) s
  | _, _, _ => False

def initE (args : List D) : Env := fun t => args.getD t (.v undef)

def resVal (a : Act) (x : ResultVar) : Sem Value :=
  match x with
  | .tmp t => pure (a.tmps.getD t undef)
  | .cell t ty => do loadVar ty (← asAddr (a.tmps.getD t undef))
theorem results_eq (fn : Func) (a : Act) : results fn a.tmps = (do let vs ← fn.results.mapM (resVal a); pure (if h : vs.size = 1 then vs[0] else .tuple vs)) := rfl

theorem resD_run {M : Ctx} {c : Cfg} {s : S} {e : Env} {a : Act} (hE : EnvRel M c e a) (hok : c.Ok s) : ∀ (rs : List ResultVar) (K : List D → Prop), resD M rs e s K →
    ∃ (vs : List Value) (ds : List D), (rs.mapM (resVal a)).run M.P c.W = .ok vs c.W ∧
      vs.length = ds.length ∧ (∀ i d, ds[i]? = some d → c.Rep d (vs.getD i undef)) ∧ K ds
  | [], K, h => ⟨[], [], by simp, rfl, fun i d hd => by simp at hd, h⟩
  | .tmp t :: rs, K, h => by
    obtain ⟨vs, ds, h1, h2, h3, h4⟩ := resD_run hE hok rs _ h
    refine ⟨a.tmps.getD t undef :: vs, e t :: ds, ?_, by simp [h2], ?_, h4⟩
    · simp only [List.mapM_cons, Sem.run_bind, resVal, Sem.run_pure, Result.andThen_ok, h1]
    · intro i d hd
      cases i with
      | zero => simp at hd; subst hd; exact hE.slot t
      | succ i => simpa [List.getD] using h3 i d (by simpa using hd)
  | .cell t ty :: rs, K, h => by
    obtain ⟨v, d, g1, g2, g3⟩ := load_fine (P := M.P) hok (hE.slot t) h
    obtain ⟨vs, ds, h1, h2, h3, h4⟩ := resD_run hE hok rs _ g3
    have hl : (resVal a (.cell t ty)).run M.P c.W = .ok v c.W := by
      simp only [resVal]
      generalize a.tmps.getD t undef = x at g1
      cases x <;> simp only [Instr.loadAt, Instr.sureAddr, Sem.run_bind, run_stuck, Result.andThen_halt, reduceCtorEq] at g1
      rename_i ad
      cases ad with
      | none => simp only [run_stuck, Result.andThen_halt, reduceCtorEq] at g1
      | some ad => simpa [asAddr] using g1
    refine ⟨v :: vs, d :: ds, ?_, by simp [h2], ?_, h4⟩
    · rw [List.mapM_cons, Sem.run_bind]
      simp only [hl, Result.andThen_ok, Sem.run_bind, h1, Sem.run_pure]
    · intro i d' hd
      cases i with
      | zero => simp at hd; subst hd; simpa using g2
      | succ i => simpa [List.getD] using h3 i d' (by simpa using hd)

theorem results_run {M : Ctx} {c : Cfg} {s : S} {e : Env} {a : Act} (hE : EnvRel M c e a) (hok : c.Ok s) {fn : Func} {rs : List ResultVar} (hrs : fn.results = rs.toArray) {K : D → S → Prop} (h : resD M rs e s fun ds => K (oneOr ds) s) :
    ∃ v d, (results fn a.tmps).run M.P c.W = .ok v c.W ∧ c.Rep d v ∧ K d s := by
  obtain ⟨vs, ds, h1, h2, h3, h4⟩ := resD_run hE hok rs _ h
  refine ⟨if hh : vs.toArray.size = 1 then vs.toArray[0] else .tuple vs.toArray, oneOr ds, ?_, ?_, h4⟩
  · rw [results_eq, hrs, Sem.run_bind, Array.mapM_eq_mapM_toList, Sem.run_map, h1]
    rfl
  · cases ds with
    | nil =>
      have : vs = [] := List.eq_nil_of_length_eq_zero h2
      subst this
      exact .tup [] [] rfl h3
    | cons d ds =>
      cases ds with
      | nil =>
        obtain ⟨v, rfl⟩ := List.length_eq_one_iff.1 h2
        simpa [oneOr] using h3 0 d rfl
      | cons d' ds =>
        have hne : ¬ vs.toArray.size = 1 := by simp [h2]
        rw [dif_neg hne]
        exact .tup _ vs h2 h3

theorem putObj_touch {W : World} {D : Nat} {o : Obj} : Touch W (W.putObj D o) D where
  size := by simp [World.putObj]
  other b hb := World.putObj_heap_other hb
  os := rfl
  tape := rfl
  output := rfl

theorem alien_rep {c : Cfg} {D : Nat} (hD : Alien c D) {W' : World} (hT : Touch c.W W' D) {d : Abs.D} {v : Value} (h : c.Rep d v) : Cfg.Rep { c with W := W' } d v :=
  Rep.mono (fun _ h => h) (fun _ _ _ h => h) (fun b hb => hT.other b fun e => hD.2.1 (e ▸ hb)) h

theorem alien_ok {c : Cfg} {s : S} (h : c.Ok s) {D : Nat} (hD : Alien c D) {W' : World} (hT : Touch c.W W' D) : Cfg.Ok { c with W := W' } s where
  kb b hb := by show b < W'.heap.size; rw [hT.size]; exact h.kb b hb
  βb f i b cp hb := by show b < W'.heap.size; rw [hT.size]; exact h.βb f i b cp hb
  fresh := h.fresh
  obj f i B hB := by
    obtain ⟨hlt, ho⟩ := h.obj f i B hB
    refine ⟨hlt, ?_⟩
    rcases ho with ⟨b, cp, h1, h2, h3⟩ | ho
    case inr => exact .inr ho
    exact .inl ⟨b, cp, h1, h2, h3.mono (fun _ h => h) (fun _ _ _ h => h) (fun b hb => hT.other b fun e => hD.2.1 (e ▸ hb)) (hT.other b fun e => hD.2.2 _ _ _ (e ▸ h1))⟩
  inj := h.inj

theorem alien_ext {c0 c : Cfg} (h0 : ∀ b, c0.K b → b < c0.W.heap.size) (hx : Ext c0 c) {D : Nat} (hb : c0.W.heap.size ≤ D) {W' : World} (hT : Touch c.W W' D) : Ext c0 { c with W := W' } where
  K := hx.K
  β := hx.β
  size := by show _ ≤ W'.heap.size; rw [hT.size]; exact hx.size
  os := hT.os.trans hx.os
  tape := hT.tape.trans hx.tape
  output := hT.output.trans hx.output
  keep b hk := (hT.other b (by have := h0 b hk; omega)).trans (hx.keep b hk)
  frame b hlt hn := (hT.other b (by omega)).trans (hx.frame b hlt hn)
  newK := hx.newK
  newβ := hx.newβ

/-- A function's way out: the marks are taken off; then come the results. -/
theorem leaves_marks {M : Ctx} {c0 : Cfg} (h0 : ∀ b, c0.K b → b < c0.W.heap.size) {fn : Func} {e : Env} {s : S} {tmps : Array Value} {R : Ending → World → Prop} (hb : c0.W.heap.size = M.b) (hsz : tmps.size = M.N)
    (hR : ∀ c : Cfg, Ext c0 c → c.Ok s → EnvRel M c e { tmps := tmps, defers := [] } → ∃ v, (results fn tmps).run M.P c.W = .ok v c.W ∧ R (.returned v) c.W) :
    ∀ (Ds : List Nat) (c : Cfg), Ds.Nodup → (∀ D ∈ Ds, c0.W.heap.size ≤ D ∧ Alien c D ∧ c.W.heap[D]? = some (.deferred (some []))) → Ext c0 c → c.Ok s →
      (∀ t, c.Rep (e t) (tmps.getD t undef)) → GlobOk M c → LeavesInM (wideR none) 0 M.P fn tmps R (Ds.map fun D => { target := .collected D, args := #[] }) .returning c.W := by
  intro Ds
  induction Ds with
  | nil => intro c _ _ hx hok hs hg; exact hR c hx hok ⟨DefOk.nil (hb ▸ hx.size), hsz, hs, hg⟩
  | cons D Ds ih =>
    intro c hn hD hx hok hs hg
    obtain ⟨g1, g2, g3⟩ := hD D (by simp)
    have hT : Touch c.W (c.W.putObj D (.deferred none)) D := putObj_touch
    refine ⟨by simp, .inl ⟨D, _, rfl, run_takeDeferred g3, ?_⟩⟩
    refine ih { c with W := c.W.putObj D (.deferred none) } (List.nodup_cons.1 hn).2 (fun D' hD' => ?_) (alien_ext h0 hx g1 hT) (alien_ok hok g2 hT) (fun t => alien_rep g2 hT (hs t)) ⟨fun g d hg' => alien_rep g2 hT (hg.g g d hg'), fun d v hv => alien_rep g2 hT (hg.x d v hv)⟩
    obtain ⟨k1, k2, k3⟩ := hD D' (by simp [hD'])
    refine ⟨k1, ⟨by show D' < (c.W.putObj D _).heap.size; rw [hT.size]; exact k2.1, k2.2⟩, (hT.other D' fun e => ?_).trans k3⟩
    subst e
    exact (List.nodup_cons.1 hn).1 hD'

theorem resD_ctx {M M' : Ctx} (hP : M.P = M'.P) {e : Env} {s : S} : ∀ (rs : List ResultVar) (K : List D → Prop), resD M rs e s K → resD M' rs e s K := by
  intro rs
  induction rs with
  | nil => exact fun K h => h
  | cons r rs ih =>
    intro K h
    cases r with
    | tmp t => exact ih _ h
    | cell t ty =>
      simp only [resD, aLoad] at h ⊢
      rw [← hP]
      split at h <;> (try exact h.elim)
      split at h <;> (try exact h.elim)
      · exact ⟨h.1, ih _ h.2⟩
      · split at h <;> (try exact h.elim)
        exact ⟨h.1, ih _ h.2⟩

theorem acall_of {M : Ctx} {f : FuncId} {fn : Func} {c : Code} {rs : List ResultVar} {args : List D} {s : S} {K : D → S → Prop} (hf : M.P.funcs[f]? = some fn) (hb : fn.body = some c) (hrs : fn.results = rs.toArray) {nt : Nat} (hnt : fn.ntmps = nt)
    (hn : args.length ≤ nt) (h : ∀ b, AWp { M with N := nt, r := none, b := b } c (retA M rs K) (initE args) s) : ACall M f args s K := by
  intro cf vals hok hg hlen hrep
  refine (callsIn_wide (n := 0)).1 (callsIn_of_wp_marks hf hb trivial ?_ rfl)
  have hE : EnvRel { M with N := nt, r := none, b := cf.W.heap.size } cf (initE args) { tmps := vals.toArray ++ Array.replicate (fn.ntmps - vals.toArray.size) undef, defers := [] } := by
    refine ⟨DefOk.nil (Nat.le_refl _), by simp [hnt, hlen]; omega, fun t => ?_, ⟨hg.g, hg.x⟩⟩
    have hlv : vals.toArray.size = vals.length := by simp
    by_cases ht : t < args.length
    · have e1 : (vals.toArray ++ Array.replicate (fn.ntmps - vals.toArray.size) undef).getD t undef = vals.getD t undef := by
        rw [Array.getD_eq_getD_getElem?, Array.getElem?_append_left (by simp; omega)]
        simp [List.getD]
      show cf.Rep (args.getD t (.v undef)) ((vals.toArray ++ Array.replicate (fn.ntmps - vals.toArray.size) undef).getD t undef)
      rw [e1]
      exact hrep t _ (by simp [List.getD, List.getElem?_eq_getElem ht])
    · have e1 : (vals.toArray ++ Array.replicate (fn.ntmps - vals.toArray.size) undef).getD t undef = undef := by
        rw [Array.getD_eq_getD_getElem?, Array.getElem?_append_right (by simp; omega)]
        rw [Array.getElem?_replicate]; split <;> rfl
      show cf.Rep (args.getD t (.v undef)) ((vals.toArray ++ Array.replicate (fn.ntmps - vals.toArray.size) undef).getD t undef)
      rw [e1]
      have : args.getD t (.v undef) = .v undef := by simp [List.getD, List.getElem?_eq_none (Nat.le_of_not_lt ht)]
      rw [this]; exact .v undef
  refine wpIn_mono (h cf.W.heap.size cf _ 0 hE hok) ?_
  rintro x a' W' ⟨cf', e', s', rfl, h2, h3, h4, h5⟩
  have fin : (resD M rs e' s' fun ds => K (oneOr ds) s') → LeavesInM (wideR none) 0 M.P fn a'.tmps (fun x W' => ∃ (c' : Cfg) (v : Value) (d : D) (s' : S), x = .returned v ∧ c'.W = W' ∧ Ext cf c' ∧ c'.Ok s' ∧ c'.Rep d v ∧ K d s') a'.defers .returning cf'.W := by
    intro hr
    obtain ⟨_, Ds, hd, hn, hDs⟩ := h3.defers
    rw [hd]
    refine leaves_marks (M := { M with N := nt, r := none, b := cf.W.heap.size }) hok.kb (s := s') (e := e') rfl h3.size ?_ Ds cf' hn hDs h2 h4 h3.slot h3.glob
    intro c hx hok' hE'
    obtain ⟨v, d, g1, g2, g3⟩ := results_run hE' hok' hrs (K := K) (resD_ctx (M := M) (M' := { M with N := nt, r := none, b := cf.W.heap.size }) rfl rs _ hr)
    exact ⟨v, g1, c, v, d, s', rfl, rfl, hx, hok', g2, g3⟩
  cases x with
  | normal => exact fin h5
  | ret => exact fin h5
  | _ => exact h5.elim

theorem acall_ofA {M : Ctx} {f : FuncId} {fn : Func} {c : Code} {rs : List ResultVar} {args : List D} {s : S} {K : D → S → Prop} (hf : M.P.funcs[f]? = some fn) (hb : fn.body = some c) (hrs : fn.results = rs.toArray) {nt : Nat} (hnt : fn.ntmps = nt)
    (hn : args.length ≤ nt) (h : ∀ b, wpA { M with N := nt, r := none, b := b } c (retA M rs K) (initE args) s) : ACall M f args s K :=
  acall_of hf hb hrs hnt hn fun b => wpA_sound c _ _ _ (h b)

theorem ACall.mono {M : Ctx} {f : FuncId} {args : List D} {s : S} {K K' : D → S → Prop} (h : ACall M f args s K) (hk : ∀ d s, K d s → K' d s) : ACall M f args s K' :=
  fun c vals h1 h2 h3 h4 => (h c vals h1 h2 h3 h4).mono fun _ _ ⟨c', v, d, s', g1, g2, g3, g4, g5, g6⟩ => ⟨c', v, d, s', g1, g2, g3, g4, g5, hk d s' g6⟩

theorem ARound.mono {M : Ctx} {l : Nat} {args : List D} {s : S} {K K' : D → S → Prop} (h : ARound M l args s K) (hk : ∀ d s, K d s → K' d s) : ARound M l args s K' := by
  intro c vals h1 h2 h3 h4
  obtain ⟨fn, tmps, assign, body, g1, g2⟩ := h c vals h1 h2 h3 h4
  exact ⟨fn, tmps, assign, body, g1, fun n => (g2 n).mono fun _ _ ⟨c', v, d, s', k1, k2, k3, k4, k5, k6⟩ => ⟨c', v, d, s', k1, k2, k3, k4, k5, hk d s' k6⟩⟩

/-! ### Values without owned memory -/

inductive Pu : D → Prop
  | any : Pu .any
  | v (x : Value) : Pu (.v x)
  | agg (cs : List D) (h : ∀ d ∈ cs, Pu d) : Pu (.agg cs)
  | tup (cs : List D) (h : ∀ d ∈ cs, Pu d) : Pu (.tup cs)
  | sl (k n : Nat) (row : Nat → Nat → D) (h : ∀ i j, i < n → j < k → Pu (row i j)) : Pu (.sl k n row)
  | rp (k : Nat) (row : Nat → D) (off : Nat) (h : ∀ j, j < k → Pu (row j)) : Pu (.rp k row off)
  | fn (f : Fn) (cs : List D) (h : ∀ d ∈ cs, Pu d) : Pu (.fn f cs)
  | ifc (t : TypeId) (d : D) (h : Pu d) : Pu (.ifc t d)

theorem Rep.pure {K : Nat → Prop} {β β' : Pl} {W : World} {d : D} {v : Value} (h : Rep K β W d v) (hp : Pu d) : Rep K β' W d v := by
  induction h with
  | any x => exact .any x
  | v x => exact .v x
  | agg cs xs hl ho _ ih => cases hp with | agg _ hp => exact .agg cs xs hl ho fun i d hd => ih i d hd (hp d (List.mem_of_getElem? hd))
  | tup cs xs hl _ ih => cases hp with | tup _ hp => exact .tup cs xs hl fun i d hd => ih i d hd (hp d (List.mem_of_getElem? hd))
  | sl k n row b off cap g hb hc hg ho _ ih => cases hp with | sl _ _ _ hp => exact .sl k n row b off cap g hb hc hg ho fun i j hi hj => ih i j hi hj (hp i j hi hj)
  | slnil k row => exact .slnil k row
  | sl0 k row a cap => exact .sl0 k row a cap
  | rp k row off b o g hb hg ho _ ih => cases hp with | rp _ _ _ hp => exact .rp k row off b o g hb hg ho fun j hj => ih j hj (hp j hj)
  | mp => cases hp
  | ms => cases hp
  | msnil => cases hp
  | fn f cs xs hl _ ih => cases hp with | fn _ _ hp => exact .fn f cs xs hl fun i d hd => ih i d hd (hp d (List.mem_of_getElem? hd))
  | ifc t d x _ ih => cases hp with | ifc _ _ hp => exact .ifc t d x (ih hp)
  | mm => cases hp

/-- How a value may be seen when nobody writes its memory any more. -/
inductive Fz (s : S) : D → D → Prop
  | any (d : D) : Fz s d .any
  | v (x : Value) : Fz s (.v x) (.v x)
  | nil (k : Nat) (row : Nat → Nat → D) : Fz s (.v (.slice none 0 0)) (.sl k 0 row)
  | agg (cs ds : List D) (hl : cs.length = ds.length) (h : ∀ (i : Nat) (d d' : D), cs[i]? = some d → ds[i]? = some d' → Fz s d d') : Fz s (.agg cs) (.agg ds)
  | tup (cs ds : List D) (hl : cs.length = ds.length) (h : ∀ (i : Nat) (d d' : D), cs[i]? = some d → ds[i]? = some d' → Fz s d d') : Fz s (.tup cs) (.tup ds)
  | sl (k n : Nat) (row row' : Nat → Nat → D) (h : ∀ i j, i < n → j < k → Fz s (row i j) (row' i j)) : Fz s (.sl k n row) (.sl k n row')
  | rp (k : Nat) (row row' : Nat → D) (off : Nat) (h : ∀ j, j < k → Fz s (row j) (row' j)) : Fz s (.rp k row off) (.rp k row' off)
  | ms (f i k lo len n : Nat) (ty : TypeId) (cell row : Nat → Nat → D) (ho : s.o f i = some (.blk k n ty cell)) (hb : lo + len ≤ n) (h : ∀ r c, r < len → c < k → Fz s (cell (lo + r) c) (row r c)) :
      Fz s (.ms f i k lo len) (.sl k len row)
  | mp (f i k r c n : Nat) (ty : TypeId) (cell : Nat → Nat → D) (row : Nat → D) (ho : s.o f i = some (.blk k n ty cell)) (hr : r < n) (h : ∀ j, j < k → Fz s (cell r j) (row j)) :
      Fz s (.mp f i k r c) (.rp k row c)
  | fn (f : Fn) (cs ds : List D) (hl : cs.length = ds.length) (h : ∀ (i : Nat) (d d' : D), cs[i]? = some d → ds[i]? = some d' → Fz s d d') : Fz s (.fn f cs) (.fn f ds)
  | ifc (t : TypeId) (d d' : D) (h : Fz s d d') : Fz s (.ifc t d) (.ifc t d')

/-- What is frozen. -/
def frozenK (c : Cfg) (s : S) : Nat → Prop := fun b => c.K b ∨ ∃ f i B cp, s.o f i = some B ∧ c.β f i = some (b, cp)

theorem fz_rep {c : Cfg} {s : S} (hok : c.Ok s) {d d' : D} (hz : Fz s d d') : ∀ {v : Value}, c.Rep d v → Rep (frozenK c s) (fun _ _ => none) c.W d' v := by
  induction hz with
  | any d => exact fun _ => .any _
  | v x => intro v h; cases h; exact .v x
  | nil k row => intro v h; cases h; exact .slnil k row
  | agg cs ds hl _ ih =>
    intro v h
    cases h with
    | agg _ xs hxl ho hr =>
      refine .agg ds xs (by omega) ho fun i d' hd' => ?_
      have hi : i < cs.length := by
        rw [hl]
        rcases Nat.lt_or_ge i ds.length with h | h
        · exact h
        · rw [List.getElem?_eq_none h] at hd'; cases hd'
      exact ih i _ d' (List.getElem?_eq_getElem hi) hd' (hr i _ (List.getElem?_eq_getElem hi))
  | tup cs ds hl _ ih =>
    intro v h
    cases h with
    | tup _ xs hxl hr =>
      refine .tup ds xs (by omega) fun i d' hd' => ?_
      have hi : i < cs.length := by
        rw [hl]
        rcases Nat.lt_or_ge i ds.length with h | h
        · exact h
        · rw [List.getElem?_eq_none h] at hd'; cases hd'
      exact ih i _ d' (List.getElem?_eq_getElem hi) hd' (hr i _ (List.getElem?_eq_getElem hi))
  | sl k n row row' _ ih =>
    intro v h
    cases h with
    | sl _ _ _ b off cap g hb hc hg ho hr => exact .sl k n row' b off cap g (.inl hb) hc hg ho fun i j hi hj => ih i j hi hj (hr i j hi hj)
    | slnil => exact .slnil k row'
    | sl0 _ _ a cap => exact .sl0 k row' a cap
  | rp k row row' off _ ih =>
    intro v h
    cases h with
    | rp _ _ _ b o g hb hg ho hr => exact .rp k row' off b o g (.inl hb) hg ho fun j hj => ih j hj (hr j hj)
  | ms f i k lo len n ty cell row ho hb _ ih =>
    intro v h
    cases h with
    | ms _ _ _ _ _ b cp cap hβ hc hcp =>
      obtain ⟨hk, hm, arr, ha, hsz, hcell⟩ := hok.at_ ho hβ
      refine .sl k len row b (lo * k) cap (fun r j => arr.getD ((lo + r) * k + j) undef) (.inr ⟨f, i, _, cp, ho, hβ⟩) hc ?_ ?_ ?_
      · intro r j hr hj
        have := arr_cell ha (o := (lo + r) * k + j) (by rw [hsz]; exact idx_lt (by omega) hj)
        rwa [show lo * k + (r * k + j) = (lo + r) * k + j by rw [Nat.add_mul]; omega]
      · intro r j hr hj; exact (hcell _ _ (by omega) hj).1
      · intro r j hr hj; exact ih r j hr hj (hcell _ _ (by omega) hj).2
    | msnil => exact .slnil k row
  | mp f i k r c' n ty cell row ho hr _ ih =>
    intro v h
    cases h with
    | mp _ _ _ _ _ b cp hβ =>
      obtain ⟨hk, hm, arr, ha, hsz, hcell⟩ := hok.at_ ho hβ
      refine .rp k row c' b (r * k) (fun j => arr.getD (r * k + j) undef) (.inr ⟨f, i, _, cp, ho, hβ⟩) ?_ ?_ ?_
      · intro j hj; exact arr_cell ha (by rw [hsz]; exact idx_lt (by omega) hj)
      · intro j hj; exact (hcell _ _ hr hj).1
      · intro j hj; exact ih j hj (hcell _ _ hr hj).2
  | fn f cs ds hl _ ih =>
    intro v h
    cases h with
    | fn _ _ xs hxl hr =>
      refine .fn f ds xs (by omega) fun i d' hd' => ?_
      have hi : i < cs.length := by
        rw [hl]
        rcases Nat.lt_or_ge i ds.length with h | h
        · exact h
        · rw [List.getElem?_eq_none h] at hd'; cases hd'
      exact ih i _ d' (List.getElem?_eq_getElem hi) hd' (hr i _ (List.getElem?_eq_getElem hi))
  | ifc t d d' _ ih => intro v h; cases h with | ifc _ _ x h => exact .ifc t d' x (ih h)

/-- The store in which nothing is owned. -/
def S0 : S := ⟨fun _ _ => none, 0⟩

/-- A call does not hang on a frame's particulars; what is known besides may only grow. -/
theorem acall_ctx {M M' : Ctx} (hP : M.P = M'.P) (hG : M.G = M'.G) (hX : ∀ d v, M.X d v → M'.X d v) {f : FuncId} {args : List D} {s : S} {K : D → S → Prop} (h : ACall M f args s K) : ACall M' f args s K := by
  intro c vals h1 h2 h3 h4
  rw [← hP]
  exact h c vals h1 (h2.ctx hG hX) h3 h4

/-- A function that hands back d, and does nothing else that could be seen. -/
def APure (M : Ctx) (f : FuncId) (args : List D) (d : D) : Prop := ∀ (M' : Ctx), M'.P = M.P → M'.G = M.G → ∀ (s : S) (K : D → S → Prop), K d s → ACall M' f args s K

theorem apure_of {M : Ctx} {f : FuncId} {args : List D} {d : D} (ha : ∀ x ∈ args, Pu x) (hg : ∀ g x, M.G g = some x → Pu x) (h : ACall { M with X := fun _ _ => False } f args S0 fun d' s' => Fz s' d' d) : APure M f args d := by
  intro M' hP hG s K hK c vals hok hglob hlen hrep
  rw [hP]
  have hok0 : Cfg.Ok ⟨c.K, fun _ _ => none, c.W⟩ S0 := ⟨hok.kb, fun _ _ _ _ h => (by cases h), fun _ _ _ => rfl, fun _ _ _ h => (by cases h), fun _ _ _ _ _ _ _ _ _ h => (by cases h)⟩
  refine (h ⟨c.K, fun _ _ => none, c.W⟩ vals hok0 ⟨fun g x hx => (hglob.g g x (hG ▸ hx)).pure (hg g x hx), fun _ _ h => h.elim⟩ hlen (fun i x hx => (hrep i x hx).pure (ha x (List.mem_of_getElem? hx)))).mono ?_
  rintro x W' ⟨c', v, d', s', rfl, rfl, h1, h2, h3, h4⟩
  have hnone : ∀ b, (∀ f i cp, (fun _ _ => none : Pl) f i ≠ some (b, cp)) := fun b f i cp h => by cases h
  have hnew : ∀ b, frozenK c' s' b → c.K b ∨ c.W.heap.size ≤ b := by
    rintro b (hb | ⟨f, i, B, cp, _, hβ⟩)
    · rcases h1.newK b hb with h | ⟨f, i, cp, h⟩ | h
      · exact .inl h
      · cases h
      · exact .inr h
    · rcases h1.newβ f i b cp hβ with ⟨_, _, _, h⟩ | h
      · cases h
      · exact .inr h
  have hext : Ext c ⟨frozenK c' s', c.β, c'.W⟩ := by
    refine ⟨fun b hb => .inl (h1.K b hb), fun _ _ _ h => h, h1.size, h1.os, h1.tape, h1.output, h1.keep, fun b hb _ => h1.frame b hb (hnone b), fun b hb => ?_, fun f i b cp hb => .inl ⟨f, i, cp, hb⟩⟩
    rcases hnew b hb with h | h
    · exact .inl h
    · exact .inr (.inr h)
  refine ⟨⟨frozenK c' s', c.β, c'.W⟩, v, d, s, rfl, rfl, hext, ⟨?_, ?_, hok.fresh, ?_, hok.inj⟩, (fz_rep h2 h4 h3).mono (fun _ h => h) (fun _ _ _ h => (by cases h)) (fun _ _ => rfl), hK⟩
  · rintro b (hb | ⟨f, i, B, cp, _, hβ⟩)
    · exact h2.kb b hb
    · exact h2.βb f i b cp hβ
  · intro f i b cp hb
    exact Nat.lt_of_lt_of_le (hok.βb f i b cp hb) h1.size
  · intro f i B hB
    obtain ⟨hlt, ho⟩ := hok.obj f i B hB
    refine ⟨hlt, ?_⟩
    rcases ho with ⟨b, cp, g1, g2, g3⟩ | ho
    · have hb := hok.βb f i b cp g1
      refine .inl ⟨b, cp, g1, fun hk => ?_, g3.mono hext.K (fun _ _ _ h => h) hext.keep (h1.frame b hb (hnone b))⟩
      rcases hnew b hk with h | h
      · exact g2 h
      · omega
    · exact .inr ho

end Go.Abs
end
