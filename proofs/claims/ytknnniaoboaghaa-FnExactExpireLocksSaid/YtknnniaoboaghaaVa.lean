/- A logic over abstract states: values as trees, memory of the call's own as blocks with abstract names. This text: the values and what they stand for. No conditions. -/
import Derived.Below
import Derived.Orders
import Derived.Tactics
import Derived.KernelRfl
namespace Go.V
open Go.RowKit (Below)
set_option linter.unusedSimpArgs false
set_option linter.unusedVariables false

/-- A cell of a tree: no addresses in it. -/
inductive T where
  | bool (b : Bool)
  | int (k : IntKind) (n : Int)
  | str (s : ByteArray)
  | nilp
  | nilf
  | nsl
  | sl (nn : Bool) (es : List (List T))
  deriving Inhabited

/-- An abstract value. 'sl': a slice of memory that nobody writes (fr: made since the call began; nn: known not to be nil); 'view': a slice of a block of the call's own; 'iptr': a pointer into memory that nobody writes. -/
inductive V where
  | bool (b : Bool)
  | int (k : IntKind) (n : Int)
  | str (s : ByteArray)
  | nilp
  | nilf
  | nsl
  | sl (fr nn : Bool) (es : List (List T))
  | agg (cs : List V)
  | view (id off len : Nat)
  | ptr (id i j : Nat)
  | map (id : Nat)
  | iptr (fr : Bool) (cs : List T)
  | clo (f : FuncId) (caps : List V)
  | tup (vs : List V)
  | unk
  deriving Inhabited

def T.toV (fr : Bool) : T → V
  | .bool b => .bool b
  | .int k n => .int k n
  | .str s => .str s
  | .nilp => .nilp
  | .nilf => .nilf
  | .nsl => .nsl
  | .sl nn es => .sl fr nn es

/-- Can it stand in a cell of a block? -/
def V.cell : V → Bool
  | .agg _ | .tup _ | .unk => false
  | _ => true

/-- Where a block of the call's own lies: its block in the heap, its first cell there, how many cells are its own, the cells of an element; m: it is a map. -/
structure Place where
  b : Nat
  o : Nat
  cap : Nat
  sz : Nat
  m : Bool

structure Blk where
  es : List (List V)
  sz : Nat
  ty : TypeId

abbrev Heap := Nat → Option Blk

structure Env where
  P : Program
  G : Nat → Option (List T)

/-- ρ: where the blocks of the call's own lie; I: the blocks of the heap that nobody writes; B: the heap's size when the call began. -/
structure Cx where
  ρ : Nat → Option Place
  I : Nat → Prop
  B : Nat
  w : World

def get2 {α : Type} (es : List (List α)) (i j : Nat) : Option α := (es[i]?).bind (·[j]?)

inductive TR (I : Nat → Prop) (w : World) : T → Value → Prop
  | bool (b : Bool) : TR I w (.bool b) (.bool b)
  | int (k : IntKind) (n : Int) : TR I w (.int k n) (.int k n)
  | str (s : ByteArray) : TR I w (.str s) (.string s)
  | nilp : TR I w .nilp (.pointer none)
  | nilf : TR I w .nilf .nilFunc
  | nsl : TR I w .nsl (.slice none 0 0)
  | sl (nn : Bool) (es : List (List T)) (a : Option Addr) (len cap sz : Nat) (rd : Nat → Nat → Value) (hlen : len = es.length) (hcap : len ≤ cap)
      (hnil : a = none → nn = false ∧ es = [] ∧ cap = 0) (hI : ∀ A, a = some A → es ≠ [] → A.spot = none ∧ I A.block) (hsz : ∀ e ∈ es, e.length = sz)
      (hrd : ∀ A i j c, a = some A → get2 es i j = some c → w.cell? ⟨A.block, A.off + i * sz + j, none⟩ = some (rd i j))
      (hsub : ∀ i j c, get2 es i j = some c → TR I w c (rd i j)) : TR I w (.sl nn es) (.slice a len cap)

def Cx.J (c : Cx) (fr : Bool) (b : Nat) : Prop := c.I b ∧ (fr = true → c.B ≤ b)

inductive VR (c : Cx) : V → Value → Prop
  | bool (b : Bool) : VR c (.bool b) (.bool b)
  | int (k : IntKind) (n : Int) : VR c (.int k n) (.int k n)
  | str (s : ByteArray) : VR c (.str s) (.string s)
  | nilp : VR c .nilp (.pointer none)
  | nilf : VR c .nilf .nilFunc
  | nsl : VR c .nsl (.slice none 0 0)
  | sl (fr nn : Bool) (es : List (List T)) (v : Value) (h : TR (c.J fr) c.w (.sl nn es) v) : VR c (.sl fr nn es) v
  | agg (cs : List V) (vs : Array Value) (hl : cs.length = vs.size) (h : ∀ (i : Nat) (x : V) (v : Value), cs[i]? = some x → vs[i]? = some v → VR c x v) : VR c (.agg cs) (.agg vs)
  | view (id off len : Nat) (p : Place) (o cap : Nat) (hp : c.ρ id = some p) (ho : cap = 0 ∨ (o = p.o + off * p.sz ∧ off * p.sz + cap * p.sz ≤ p.cap)) (hl : len ≤ cap) (hm : p.m = false := by first | rfl | assumption) :
      VR c (.view id off len) (.slice (some ⟨p.b, o, none⟩) len cap)
  | map (id : Nat) (p : Place) (hp : c.ρ id = some p) (hm : p.m = true := by first | rfl | assumption) : VR c (.map id) (.map (some p.b))
  | ptr (id i j : Nat) (p : Place) (hp : c.ρ id = some p) (hm : p.m = false := by first | rfl | assumption) : VR c (.ptr id i j) (.pointer (some ⟨p.b, p.o + i * p.sz + j, none⟩))
  | iptr (fr : Bool) (cs : List T) (b o : Nat) (rd : Nat → Value) (hI : c.J fr b) (hrd : ∀ (j : Nat) (x : T), cs[j]? = some x → c.w.cell? ⟨b, o + j, none⟩ = some (rd j))
      (hsub : ∀ (j : Nat) (x : T), cs[j]? = some x → TR (c.J fr) c.w x (rd j)) : VR c (.iptr fr cs) (.pointer (some ⟨b, o, none⟩))
  | clo (f : FuncId) (caps : List V) (vs : Array Value) (hl : caps.length = vs.size) (h : ∀ (i : Nat) (x : V) (v : Value), caps[i]? = some x → vs[i]? = some v → VR c x v) :
      VR c (.clo f caps) (.func (.func f) #[] vs)
  | tup (cs : List V) (vs : Array Value) (hl : cs.length = vs.size) (h : ∀ (i : Nat) (x : V) (v : Value), cs[i]? = some x → vs[i]? = some v → VR c x v) : VR c (.tup cs) (.tuple vs)
  | unk (v : Value) : VR c .unk v

/-- One context goes on into another. -/
structure Ext (c c' : Cx) : Prop where
  B : c'.B = c.B
  rho : ∀ id p, c.ρ id = some p → c'.ρ id = some p
  imm : ∀ b, c.I b → c'.I b
  keep : ∀ b, c.I b → c'.w.heap[b]? = c.w.heap[b]?
  below : Below c.B c.w c'.w

theorem Ext.refl (c : Cx) : Ext c c := ⟨rfl, fun _ _ h => h, fun _ h => h, fun _ _ => rfl, Below.refl _ _⟩
theorem Ext.trans {a b c : Cx} (h : Ext a b) (k : Ext b c) : Ext a c :=
  ⟨k.B.trans h.B, fun id p e => k.rho id p (h.rho id p e), fun x e => k.imm x (h.imm x e), fun x e => (k.keep x (h.imm x e)).trans (h.keep x e), h.below.trans (h.B ▸ k.below)⟩

theorem cell_of_block {w w' : World} {b o : Nat} (h : w'.heap[b]? = w.heap[b]?) : w'.cell? ⟨b, o, none⟩ = w.cell? ⟨b, o, none⟩ := by
  simp [World.cell?, h]

theorem TR.mono {I I' : Nat → Prop} {w w' : World} {x : T} {v : Value} (h : TR I w x v) (hi : ∀ b, I b → I' b) (hk : ∀ b, I b → w'.heap[b]? = w.heap[b]?) : TR I' w' x v := by
  induction h with
  | bool b => exact .bool b
  | int k n => exact .int k n
  | str s => exact .str s
  | nilp => exact .nilp
  | nilf => exact .nilf
  | nsl => exact .nsl
  | sl nn es a len cap sz rd hlen hcap hnil hI hsz hrd hsub ih =>
    refine .sl nn es a len cap sz rd hlen hcap hnil (fun A hA he => ⟨(hI A hA he).1, hi _ (hI A hA he).2⟩) hsz (fun A i j c hA hg => ?_) ih
    have hne : es ≠ [] := by
      rintro rfl
      simp [get2] at hg
    rw [cell_of_block (hk _ (hI A hA hne).2)]
    exact hrd A i j c hA hg

theorem VR.mono {c c' : Cx} {x : V} {v : Value} (h : VR c x v) (e : Ext c c') : VR c' x v := by
  have hJ : ∀ fr b, c.J fr b → c'.J fr b := fun fr b hb => ⟨e.imm b hb.1, fun hf => by rw [e.B]; exact hb.2 hf⟩
  have hK : ∀ fr b, c.J fr b → c'.w.heap[b]? = c.w.heap[b]? := fun fr b hb => e.keep b hb.1
  induction h with
  | bool b => exact .bool b
  | int k n => exact .int k n
  | str s => exact .str s
  | nilp => exact .nilp
  | nilf => exact .nilf
  | nsl => exact .nsl
  | sl fr nn es v h => exact .sl fr nn es v (h.mono (hJ fr) (hK fr))
  | agg cs vs hl _ ih => exact .agg cs vs hl ih
  | view id off len p o cap hp ho hl hm => exact .view id off len p o cap (e.rho _ _ hp) ho hl hm
  | ptr id i j p hp hm => exact .ptr id i j p (e.rho _ _ hp) hm
  | map id p hp hm => exact .map id p (e.rho _ _ hp) hm
  | iptr fr cs b o rd hI hrd hsub =>
    refine .iptr fr cs b o rd (hJ fr _ hI) (fun j x hx => ?_) (fun j x hx => (hsub j x hx).mono (hJ fr) (hK fr))
    rw [cell_of_block (hK fr _ hI)]; exact hrd j x hx
  | clo f caps vs hl _ ih => exact .clo f caps vs hl ih
  | tup cs vs hl _ ih => exact .tup cs vs hl ih
  | unk v => exact .unk v

theorem TR.toV {c : Cx} {fr : Bool} {x : T} {v : Value} (h : TR (c.J fr) c.w x v) : VR c (x.toV fr) v := by
  cases h with
  | bool b => exact .bool b
  | int k n => exact .int k n
  | str s => exact .str s
  | nilp => exact .nilp
  | nilf => exact .nilf
  | nsl => exact .nsl
  | sl nn es a len cap sz rd hlen hcap hnil hI hsz hrd hsub => exact .sl _ _ _ _ (.sl nn es a len cap sz rd hlen hcap hnil hI hsz hrd hsub)

/-- A block of cells lies where it is said to lie. -/
def CellsAt (c : Cx) (p : Place) (b : Blk) : Prop := ∃ cells fz, p.sz = b.sz ∧ c.w.heap[p.b]? = some (.cells cells b.ty fz) ∧
    (fz.1 = fz.2 ∨ p.o + p.cap ≤ fz.1) ∧ p.o + p.cap ≤ cells.size ∧ b.es.length * b.sz ≤ p.cap ∧ (∀ e ∈ b.es, e.length = b.sz) ∧
    ∀ i j x, get2 b.es i j = some x → ∃ v, cells[p.o + i * b.sz + j]? = some v ∧ VR c x v ∧ v.oneCell' = true

/-- A map's entries, in the order in which they came: key and value. -/
def MapAt (c : Cx) (p : Place) (b : Blk) : Prop := ∃ es, c.w.heap[p.b]? = some (.map es b.es.length) ∧ es.size = b.es.length ∧
    ∀ (i : Nat) (row : List V), b.es[i]? = some row → ∃ e k x, es[i]? = some e ∧ row = [k, x] ∧ e.born = i ∧ VR c k e.key ∧ VR c x e.val

theorem CellsAt.mono {c c' : Cx} {p : Place} {b : Blk} (h : CellsAt c p b) (e : Ext c c') (hk : c'.w.heap[p.b]? = c.w.heap[p.b]?) : CellsAt c' p b := by
  obtain ⟨cells, fz, h2, h3, h4, h5, h6, h7, h8⟩ := h
  exact ⟨cells, fz, h2, by rw [hk, h3], h4, h5, h6, h7, fun i j x hx => let ⟨v, a, b, d⟩ := h8 i j x hx; ⟨v, a, b.mono e, d⟩⟩
theorem MapAt.mono {c c' : Cx} {p : Place} {b : Blk} (h : MapAt c p b) (e : Ext c c') (hk : c'.w.heap[p.b]? = c.w.heap[p.b]?) : MapAt c' p b := by
  obtain ⟨es, h1, h2, h3⟩ := h
  exact ⟨es, by rw [hk, h1], h2, fun i row hr => let ⟨en, k, x, a, b, d, g, f⟩ := h3 i row hr; ⟨en, k, x, a, b, d, g.mono e, f.mono e⟩⟩

/-- The blocks of the call's own lie in the heap as they are said to. -/
structure Good (E : Env) (c : Cx) (h : Heap) : Prop where
  blk : ∀ id b, h id = some b → ∃ p, c.ρ id = some p ∧ (p.m = false → CellsAt c p b) ∧ (p.m = true → MapAt c p b)
  inj : ∀ id id' b b' p p', h id = some b → h id' = some b' → c.ρ id = some p → c.ρ id' = some p' → p.b = p'.b → id = id'
  imm : ∀ b, c.I b → b < c.w.heap.size
  sep : ∀ id b p, h id = some b → c.ρ id = some p → ¬ c.I p.b
  own : ∀ id p, c.ρ id = some p → c.B ≤ p.b ∧ p.b < c.w.heap.size
  base : c.B ≤ c.w.heap.size
  glob : ∀ g cs, E.G g = some cs → VR c (.iptr false cs) (.pointer (some ⟨g, 0, none⟩))

theorem Good.cells {E : Env} {c : Cx} {h : Heap} (hg : Good E c h) {id : Nat} {b : Blk} {p : Place} (hb : h id = some b) (hp : c.ρ id = some p) (hm : p.m = false) : CellsAt c p b := by
  obtain ⟨q, h1, h2, _⟩ := hg.blk id b hb
  rw [hp] at h1; obtain rfl := Option.some.inj h1
  exact h2 hm
theorem Good.map {E : Env} {c : Cx} {h : Heap} (hg : Good E c h) {id : Nat} {b : Blk} {p : Place} (hb : h id = some b) (hp : c.ρ id = some p) (hm : p.m = true) : MapAt c p b := by
  obtain ⟨q, h1, _, h2⟩ := hg.blk id b hb
  rw [hp] at h1; obtain rfl := Option.some.inj h1
  exact h2 hm

/-- An abstract frame: slots, blocks of the call's own, the next free name. -/
structure St where
  t : Nat → V
  h : Heap
  n : Nat

def upd {α : Type} (f : Nat → α) (d : Nat) (v : α) : Nat → α := fun i => if i = d then v else f i
def updO {α : Type} (f : Nat → α) : Option Nat → α → Nat → α
  | some d, v => upd f d v
  | none, _ => f
@[simp] theorem upd_same {α : Type} (f : Nat → α) (d : Nat) (v : α) : upd f d v d = v := by simp [upd]
theorem upd_ne {α : Type} (f : Nat → α) {d i : Nat} (v : α) (h : i ≠ d) : upd f d v i = f i := by simp [upd, h]

def V.ofConst : Value → V
  | .bool b => .bool b
  | .int k n => .int k n
  | .string s => .str s
  | .pointer none => .nilp
  | .nilFunc => .nilf
  | .slice none 0 0 => .nsl
  | _ => .unk

def Env.eval (E : Env) (t : Nat → V) : Operand → V
  | .tmp i => t i
  | .const v => V.ofConst v
  | .global g => match E.G g with | some cs => .iptr false cs | none => .unk
  | .func f => .clo f []

theorem ofConst_ok (c : Cx) (v : Value) : VR c (V.ofConst v) v := by
  unfold V.ofConst
  split
  · exact .bool _
  · exact .int _ _
  · exact .str _
  · exact .nilp
  · exact .nilf
  · exact .nsl
  · exact .unk _

/-- The frame's slots stand for the abstract ones. -/
structure Slots (sz : Nat) (t : Nat → V) (c : Cx) (a : Act) : Prop where
  size : a.tmps.size = sz
  tmps : ∀ i, VR c (t i) (a.tmps.getD i undef)
  defers : a.defers = []

theorem Slots.mono {sz : Nat} {t : Nat → V} {c c' : Cx} {a : Act} (h : Slots sz t c a) (e : Ext c c') : Slots sz t c' a :=
  ⟨h.size, fun i => (h.tmps i).mono e, h.defers⟩

theorem Slots.put {sz : Nat} {t : Nat → V} {c : Cx} {a : Act} (h : Slots sz t c a) {d : Option Nat} (hd : ∀ i, d = some i → i < sz) {x : V} {v : Value} (hv : VR c x v) :
    Slots sz (updO t d x) c (a.put d v) := by
  cases d with
  | none => exact h
  | some d =>
    refine ⟨by simp [Act.put, h.size], fun i => ?_, h.defers⟩
    have hlt : d < a.tmps.size := by rw [h.size]; exact hd d rfl
    by_cases e : i = d
    · subst e
      simp [updO, Act.put, hlt, hv]
    · have : (a.put (some d) v).tmps.getD i undef = a.tmps.getD i undef := by
        simp [Act.put, Array.getElem?_setIfInBounds_ne (Ne.symm e)]
      rw [this]
      simp only [updO, upd_ne _ _ e]
      exact h.tmps i

theorem eval_ok {E : Env} {sz : Nat} {t : Nat → V} {c : Cx} {a : Act} {h : Heap} (hs : Slots sz t c a) (hg : Good E c h) (x : Operand) : VR c (E.eval t x) (a.eval x) := by
  cases x with
  | tmp i => exact hs.tmps i
  | const v => exact ofConst_ok c v
  | global g =>
    simp only [Env.eval, Act.eval]
    split
    · rename_i cs hcs; exact hg.glob g cs hcs
    · exact .unk _
  | func f => exact .clo f [] #[] rfl (by simp)

end Go.V
