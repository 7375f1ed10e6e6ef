import Derived.Below
import Derived.Orders
import Derived.Tactics
import Derived.KernelRfl
import Derived.Deep.MidRow
import Derived.Laws.StructEq
import Derived.WalkSpells
namespace Go.V
open Go.RowKit (Below)
set_option linter.unusedSimpArgs false
set_option linter.unusedVariables false
theorem kz {n : Nat} : n.succ ≠ 0 := Nat.succ_ne_zero _
theorem kb {a b : Nat} (h : Nat.ble a b = true := by rfl) : a ≤ b := Nat.le_of_ble_eq_true h
theorem j2 {α : Sort _} {a0 : α} {β : Sort _} {a1 : β} : a0 = a0 ∧ a1 = a1 := ⟨rfl, rfl⟩
theorem j3 {α : Sort _} {a0 : α} {β : Sort _} {a1 : β} {γ : Sort _} {a2 : γ} : a0 = a0 ∧ a1 = a1 ∧ a2 = a2 := ⟨rfl, rfl, rfl⟩
theorem j4 {α : Sort _} {a0 : α} {β : Sort _} {a1 : β} {γ : Sort _} {a2 : γ} {δ : Sort _} {a3 : δ} : a0 = a0 ∧ a1 = a1 ∧ a2 = a2 ∧ a3 = a3 := ⟨rfl, rfl, rfl, rfl⟩
theorem j5 {α : Sort _} {a0 : α} {β : Sort _} {a1 : β} {γ : Sort _} {a2 : γ} {δ : Sort _} {a3 : δ} {ε : Sort _} {a4 : ε} : a0 = a0 ∧ a1 = a1 ∧ a2 = a2 ∧ a3 = a3 ∧ a4 = a4 := ⟨rfl, rfl, rfl, rfl, rfl⟩
theorem j6 {α : Sort _} {a0 : α} {β : Sort _} {a1 : β} {γ : Sort _} {a2 : γ} {δ : Sort _} {a3 : δ} {ε : Sort _} {a4 : ε} {ζ : Sort _} {a5 : ζ} : a0 = a0 ∧ a1 = a1 ∧ a2 = a2 ∧ a3 = a3 ∧ a4 = a4 ∧ a5 = a5 := ⟨rfl, rfl, rfl, rfl, rfl, rfl⟩
inductive T where
  | bool (b : Bool)
  | int (k : IntKind) (n : Int)
  | str (s : ByteArray)
  | nilp
  | nilf
  | nsl
  | sl (nn : Bool) (es : List (List T))
  deriving Inhabited
inductive V where
  | bool (b : Bool)
  | int (k : IntKind) (n : Int)
  | str (s : ByteArray)
  | nilp
  | nilf
  | nsl
  | sl (fr nn : Bool) (es : List (List T))
  | agg (cs : List V)
  | view (id off len : Nat)
  | ptr (id i j : Nat)
  | map (id : Nat)
  | iptr (fr : Bool) (cs : List T)
  | clo (f : FuncId) (caps : List V)
  | tup (vs : List V)
  | unk
  
  | vcap (id off len c : Nat)
  deriving Inhabited
def T.toV (fr : Bool) : T → V
  | .bool b => .bool b
  | .int k n => .int k n
  | .str s => .str s
  | .nilp => .nilp
  | .nilf => .nilf
  | .nsl => .nsl
  | .sl nn es => .sl fr nn es
def V.cell : V → Bool
  | .agg _ | .tup _ | .unk => false
  | _ => true
structure Place where
  b : Nat
  o : Nat
  cap : Nat
  sz : Nat
  m : Bool
structure Blk where
  es : List (List V)
  sz : Nat
  ty : TypeId
abbrev Heap := Nat → Option Blk
structure Env where
  P : Program
  G : Nat → Option (List T)
structure Cx where
  ρ : Nat → Option Place
  I : Nat → Prop
  B : Nat
  w : World
def get2 {α : Type} (es : List (List α)) (i j : Nat) : Option α := (es[i]?).bind (·[j]?)
inductive TR (I : Nat → Prop) (w : World) : T → Value → Prop
  | bool (b : Bool) : TR I w (.bool b) (.bool b)
  | int (k : IntKind) (n : Int) : TR I w (.int k n) (.int k n)
  | str (s : ByteArray) : TR I w (.str s) (.string s)
  | nilp : TR I w .nilp (.pointer none)
  | nilf : TR I w .nilf .nilFunc
  | nsl : TR I w .nsl (.slice none 0 0)
  | sl (nn : Bool) (es : List (List T)) (a : Option Addr) (len cap sz : Nat) (rd : Nat → Nat → Value) (hlen : len = es.length) (hcap : len ≤ cap)
      (hnil : a = none → nn = false ∧ es = [] ∧ cap = 0) (hI : ∀ A, a = some A → es ≠ [] → A.spot = none ∧ I A.block) (hsz : ∀ e ∈ es, e.length = sz)
      (hrd : ∀ A i j c, a = some A → get2 es i j = some c → w.cell? ⟨A.block, A.off + i * sz + j, none⟩ = some (rd i j))
      (hsub : ∀ i j c, get2 es i j = some c → TR I w c (rd i j)) : TR I w (.sl nn es) (.slice a len cap)
def Cx.J (c : Cx) (fr : Bool) (b : Nat) : Prop := c.I b ∧ (fr = true → c.B ≤ b)
inductive VR (c : Cx) : V → Value → Prop
  | bool (b : Bool) : VR c (.bool b) (.bool b)
  | int (k : IntKind) (n : Int) : VR c (.int k n) (.int k n)
  | str (s : ByteArray) : VR c (.str s) (.string s)
  | nilp : VR c .nilp (.pointer none)
  | nilf : VR c .nilf .nilFunc
  | nsl : VR c .nsl (.slice none 0 0)
  | sl (fr nn : Bool) (es : List (List T)) (v : Value) (h : TR (c.J fr) c.w (.sl nn es) v) : VR c (.sl fr nn es) v
  | agg (cs : List V) (vs : Array Value) (hl : cs.length = vs.size) (h : ∀ (i : Nat) (x : V) (v : Value), cs[i]? = some x → vs[i]? = some v → VR c x v) : VR c (.agg cs) (.agg vs)
  | view (id off len : Nat) (p : Place) (o cap : Nat) (hp : c.ρ id = some p) (ho : cap = 0 ∨ (o = p.o + off * p.sz ∧ off * p.sz + cap * p.sz ≤ p.cap)) (hl : len ≤ cap) (hm : p.m = false := by first | rfl | assumption) :
      VR c (.view id off len) (.slice (some ⟨p.b, o, none⟩) len cap)
  | map (id : Nat) (p : Place) (hp : c.ρ id = some p) (hm : p.m = true := by first | rfl | assumption) : VR c (.map id) (.map (some p.b))
  | ptr (id i j : Nat) (p : Place) (hp : c.ρ id = some p) (hm : p.m = false := by first | rfl | assumption) : VR c (.ptr id i j) (.pointer (some ⟨p.b, p.o + i * p.sz + j, none⟩))
  | iptr (fr : Bool) (cs : List T) (b o : Nat) (rd : Nat → Value) (hI : c.J fr b) (hrd : ∀ (j : Nat) (x : T), cs[j]? = some x → c.w.cell? ⟨b, o + j, none⟩ = some (rd j))
      (hsub : ∀ (j : Nat) (x : T), cs[j]? = some x → TR (c.J fr) c.w x (rd j)) : VR c (.iptr fr cs) (.pointer (some ⟨b, o, none⟩))
  | clo (f : FuncId) (caps : List V) (vs : Array Value) (hl : caps.length = vs.size) (h : ∀ (i : Nat) (x : V) (v : Value), caps[i]? = some x → vs[i]? = some v → VR c x v) :
      VR c (.clo f caps) (.func (.func f) #[] vs)
  | tup (cs : List V) (vs : Array Value) (hl : cs.length = vs.size) (h : ∀ (i : Nat) (x : V) (v : Value), cs[i]? = some x → vs[i]? = some v → VR c x v) : VR c (.tup cs) (.tuple vs)
  | unk (v : Value) : VR c .unk v
  | vcap (id off len cp : Nat) (p : Place) (o : Nat) (hp : c.ρ id = some p) (ho : cp = 0 ∨ (o = p.o + off * p.sz ∧ off * p.sz + cp * p.sz ≤ p.cap)) (hl : len ≤ cp) (hm : p.m = false := by first | rfl | assumption) : VR c (.vcap id off len cp) (.slice (some ⟨p.b, o, none⟩) len cp)
structure Ext (c c' : Cx) : Prop where
  B : c'.B = c.B
  rho : ∀ id p, c.ρ id = some p → c'.ρ id = some p
  imm : ∀ b, c.I b → c'.I b
  keep : ∀ b, c.I b → c'.w.heap[b]? = c.w.heap[b]?
  below : Below c.B c.w c'.w
theorem Ext.refl (c : Cx) : Ext c c := ⟨rfl, fun _ _ h => h, fun _ h => h, fun _ _ => rfl, Below.refl _ _⟩
theorem Ext.trans {a b c : Cx} (h : Ext a b) (k : Ext b c) : Ext a c :=
  ⟨k.B.trans h.B, fun id p e => k.rho id p (h.rho id p e), fun x e => k.imm x (h.imm x e), fun x e => (k.keep x (h.imm x e)).trans (h.keep x e), h.below.trans (h.B ▸ k.below)⟩
theorem I8 {w w' : World} {b o : Nat} (h : w'.heap[b]? = w.heap[b]?) : w'.cell? ⟨b, o, none⟩ = w.cell? ⟨b, o, none⟩ := by
  simp [World.cell?, h]
theorem TR.mono {I I' : Nat → Prop} {w w' : World} {x : T} {v : Value} (h : TR I w x v) (hi : ∀ b, I b → I' b) (hk : ∀ b, I b → w'.heap[b]? = w.heap[b]?) : TR I' w' x v := by
  induction h with
  | bool b => exact .bool b
  | int k n => exact .int k n
  | str s => exact .str s
  | nilp => exact .nilp
  | nilf => exact .nilf
  | nsl => exact .nsl
  | sl nn es a len cap sz rd hlen hcap hnil hI hsz hrd hsub ih =>
    refine .sl nn es a len cap sz rd hlen hcap hnil (fun A hA he => ⟨(hI A hA he).1, hi _ (hI A hA he).2⟩) hsz (fun A i j c hA hg => ?_) ih
    have hne : es ≠ [] := by
      rintro rfl
      simp [get2] at hg
    rw [I8 (hk _ (hI A hA hne).2)]
    exact hrd A i j c hA hg
theorem VR.mono {c c' : Cx} {x : V} {v : Value} (h : VR c x v) (e : Ext c c') : VR c' x v := by
  have hJ : ∀ fr b, c.J fr b → c'.J fr b := fun fr b hb => ⟨e.imm b hb.1, fun hf => by rw [e.B]; exact hb.2 hf⟩
  have hK : ∀ fr b, c.J fr b → c'.w.heap[b]? = c.w.heap[b]? := fun fr b hb => e.keep b hb.1
  induction h with
  | bool b => exact .bool b
  | int k n => exact .int k n
  | str s => exact .str s
  | nilp => exact .nilp
  | nilf => exact .nilf
  | nsl => exact .nsl
  | sl fr nn es v h => exact .sl fr nn es v (h.mono (hJ fr) (hK fr))
  | agg cs vs hl _ ih => exact .agg cs vs hl ih
  | view id off len p o cap hp ho hl hm => exact .view id off len p o cap (e.rho _ _ hp) ho hl hm
  | vcap id off len cp p o hp ho hl hm => exact .vcap id off len cp p o (e.rho _ _ hp) ho hl hm
  | ptr id i j p hp hm => exact .ptr id i j p (e.rho _ _ hp) hm
  | map id p hp hm => exact .map id p (e.rho _ _ hp) hm
  | iptr fr cs b o rd hI hrd hsub =>
    refine .iptr fr cs b o rd (hJ fr _ hI) (fun j x hx => ?_) (fun j x hx => (hsub j x hx).mono (hJ fr) (hK fr))
    rw [I8 (hK fr _ hI)]; exact hrd j x hx
  | clo f caps vs hl _ ih => exact .clo f caps vs hl ih
  | tup cs vs hl _ ih => exact .tup cs vs hl ih
  | unk v => exact .unk v
theorem TR.toV {c : Cx} {fr : Bool} {x : T} {v : Value} (h : TR (c.J fr) c.w x v) : VR c (x.toV fr) v := by
  cases h with
  | bool b => exact .bool b
  | int k n => exact .int k n
  | str s => exact .str s
  | nilp => exact .nilp
  | nilf => exact .nilf
  | nsl => exact .nsl
  | sl nn es a len cap sz rd hlen hcap hnil hI hsz hrd hsub => exact .sl _ _ _ _ (.sl nn es a len cap sz rd hlen hcap hnil hI hsz hrd hsub)
def CellsAt (c : Cx) (p : Place) (b : Blk) : Prop := ∃ cells fz, p.sz = b.sz ∧ c.w.heap[p.b]? = some (.cells cells b.ty fz) ∧
    (fz.1 = fz.2 ∨ (p.o + p.cap ≤ fz.1 ∧ b.sz = 1)) ∧ p.o + p.cap ≤ cells.size ∧ b.es.length * b.sz ≤ p.cap ∧ (∀ e ∈ b.es, e.length = b.sz) ∧
    ∀ i j x, get2 b.es i j = some x → ∃ v, cells[p.o + i * b.sz + j]? = some v ∧ VR c x v ∧ v.oneCell' = true
def MapAt (c : Cx) (p : Place) (b : Blk) : Prop := ∃ es, c.w.heap[p.b]? = some (.map es b.es.length) ∧ es.size = b.es.length ∧
    ∀ (i : Nat) (row : List V), b.es[i]? = some row → ∃ e k x, es[i]? = some e ∧ row = [k, x] ∧ e.born = i ∧ VR c k e.key ∧ VR c x e.val
theorem CellsAt.mono {c c' : Cx} {p : Place} {b : Blk} (h : CellsAt c p b) (e : Ext c c') (hk : c'.w.heap[p.b]? = c.w.heap[p.b]?) : CellsAt c' p b := by
  obtain ⟨cells, fz, h2, h3, h4, h5, h6, h7, h8⟩ := h
  exact ⟨cells, fz, h2, by rw [hk, h3], h4, h5, h6, h7, fun i j x hx => let ⟨v, a, b, d⟩ := h8 i j x hx; ⟨v, a, b.mono e, d⟩⟩
theorem MapAt.mono {c c' : Cx} {p : Place} {b : Blk} (h : MapAt c p b) (e : Ext c c') (hk : c'.w.heap[p.b]? = c.w.heap[p.b]?) : MapAt c' p b := by
  obtain ⟨es, h1, h2, h3⟩ := h
  exact ⟨es, by rw [hk, h1], h2, fun i row hr => let ⟨en, k, x, a, b, d, g, f⟩ := h3 i row hr; ⟨en, k, x, a, b, d, g.mono e, f.mono e⟩⟩
structure Good (E : Env) (c : Cx) (h : Heap) : Prop where
  blk : ∀ id b, h id = some b → ∃ p, c.ρ id = some p ∧ (p.m = false → CellsAt c p b) ∧ (p.m = true → MapAt c p b)
  inj : ∀ id id' b b' p p', h id = some b → h id' = some b' → c.ρ id = some p → c.ρ id' = some p' → p.b = p'.b → id = id'
  imm : ∀ b, c.I b → b < c.w.heap.size
  sep : ∀ id b p, h id = some b → c.ρ id = some p → ¬ c.I p.b
  own : ∀ id p, c.ρ id = some p → c.B ≤ p.b ∧ p.b < c.w.heap.size
  base : c.B ≤ c.w.heap.size
  glob : ∀ g cs, E.G g = some cs → VR c (.iptr false cs) (.pointer (some ⟨g, 0, none⟩))
theorem Good.cells {E : Env} {c : Cx} {h : Heap} (hg : Good E c h) {id : Nat} {b : Blk} {p : Place} (hb : h id = some b) (hp : c.ρ id = some p) (hm : p.m = false) : CellsAt c p b := by
  obtain ⟨q, h1, h2, _⟩ := hg.blk id b hb
  rw [hp] at h1; obtain rfl := Option.some.inj h1
  exact h2 hm
theorem Good.map {E : Env} {c : Cx} {h : Heap} (hg : Good E c h) {id : Nat} {b : Blk} {p : Place} (hb : h id = some b) (hp : c.ρ id = some p) (hm : p.m = true) : MapAt c p b := by
  obtain ⟨q, h1, _, h2⟩ := hg.blk id b hb
  rw [hp] at h1; obtain rfl := Option.some.inj h1
  exact h2 hm
structure St where
  t : Nat → V
  h : Heap
  n : Nat
def upd {α : Type} (f : Nat → α) (d : Nat) (v : α) : Nat → α := fun i => if i = d then v else f i
def updO {α : Type} (f : Nat → α) : Option Nat → α → Nat → α
  | some d, v => upd f d v
  | none, _ => f
@[simp] theorem upd_same {α : Type} (f : Nat → α) (d : Nat) (v : α) : upd f d v d = v := by simp [upd]
theorem upd_ne {α : Type} (f : Nat → α) {d i : Nat} (v : α) (h : i ≠ d) : upd f d v i = f i := by simp [upd, h]
def V.ofConst : Value → V
  | .bool b => .bool b
  | .int k n => .int k n
  | .string s => .str s
  | .pointer none => .nilp
  | .nilFunc => .nilf
  | .slice none 0 0 => .nsl
  | _ => .unk
def Env.eval (E : Env) (t : Nat → V) : Operand → V
  | .tmp i => t i
  | .const v => V.ofConst v
  | .global g => match E.G g with | some cs => .iptr false cs | none => .unk
  | .func f => .clo f []
theorem G7 (c : Cx) (v : Value) : VR c (V.ofConst v) v := by
  unfold V.ofConst
  split
  · exact .bool _
  · exact .int _ _
  · exact .str _
  · exact .nilp
  · exact .nilf
  · exact .nsl
  · exact .unk _
structure Slots (sz : Nat) (t : Nat → V) (c : Cx) (a : Act) : Prop where
  size : a.tmps.size = sz
  tmps : ∀ i, VR c (t i) (a.tmps.getD i undef)
  defers : a.defers = []
theorem Slots.mono {sz : Nat} {t : Nat → V} {c c' : Cx} {a : Act} (h : Slots sz t c a) (e : Ext c c') : Slots sz t c' a :=
  ⟨h.size, fun i => (h.tmps i).mono e, h.defers⟩
theorem Slots.put {sz : Nat} {t : Nat → V} {c : Cx} {a : Act} (h : Slots sz t c a) {d : Option Nat} (hd : ∀ i, d = some i → i < sz) {x : V} {v : Value} (hv : VR c x v) :
    Slots sz (updO t d x) c (a.put d v) := by
  cases d with
  | none => exact h
  | some d =>
    refine ⟨by simp [Act.put, h.size], fun i => ?_, h.defers⟩
    have hlt : d < a.tmps.size := by rw [h.size]; exact hd d rfl
    by_cases e : i = d
    · subst e
      simp [updO, Act.put, hlt, hv]
    · have : (a.put (some d) v).tmps.getD i undef = a.tmps.getD i undef := by
        simp [Act.put, Array.getElem?_setIfInBounds_ne (Ne.symm e)]
      rw [this]
      simp only [updO, upd_ne _ _ e]
      exact h.tmps i
theorem eval_ok {E : Env} {sz : Nat} {t : Nat → V} {c : Cx} {a : Act} {h : Heap} (hs : Slots sz t c a) (hg : Good E c h) (x : Operand) : VR c (E.eval t x) (a.eval x) := by
  cases x with
  | tmp i => exact hs.tmps i
  | const v => exact G7 c v
  | global g =>
    simp only [Env.eval, Act.eval]
    split
    · rename_i cs hcs; exact hg.glob g cs hcs
    · exact .unk _
  | func f => exact .clo f [] #[] rfl (by simp)
end Go.V
namespace Go.V
open Go.RowKit (Below)
set_option linter.unusedSimpArgs false
set_option linter.unusedVariables false
def app : List (Nat × Option Blk) → Heap → Heap
  | [], h => h
  | (id, b) :: r, h => app r (upd h id b)
def OpOK (E : Env) (o : Oper) (t : Nat → V) (h : Heap) (n : Nat) (rd : List Nat) (tot : Bool) (v : V) (wr : List (Nat × Option Blk)) (n' : Nat) : Prop :=
  ∀ (c : Cx) (a : Act) (h2 : Heap) (K : Act → World → Prop) (Q : Exit → Act → World → Prop), a.defers = [] →
    (∀ x ∈ o.op.operands, VR c (E.eval t x) (a.eval x)) → Good E c h2 → (∀ id ∈ rd, h2 id = h id) → (tot = true → h2 = h ∧ ∀ id, n ≤ id → c.ρ id = none) →
    (∀ id, n ≤ id → id < n' → c.ρ id = none) →
    (∀ c' v', Ext c c' → Good E c' (app wr h2) → (∀ id, c'.ρ id ≠ none → c.ρ id ≠ none ∨ (n ≤ id ∧ id < n')) → VR c' v v' → K (a.put o.dst v') c'.w) →
    o.wp E.P a c.w K Q
theorem VR.undef (c : Cx) : VR c (.tup []) undef := .tup [] #[] rfl (by simp)
def guardV (ops : Array Oper) (t : Nat → V) (o : Oper) : Option Bool :=
  match o.guard with
  | none => some true
  | some (g, want) => match (ops[g]?).bind (·.dst) with
    | some d => match t d with
      | .bool b => some (b == want)
      | .tup [] => some false
      | _ => none
    | none => some false
theorem AB {ops : Array Oper} {sz : Nat} {t : Nat → V} {c : Cx} {a : Act} (hs : Slots sz t c a) {o : Oper} {b : Bool} (h : guardV ops t o = some b) :
    Region.wanted o (yielded ops a.tmps) = b := by
  unfold guardV at h
  unfold Region.wanted
  cases hg : o.guard with
  | none => simp [hg] at h; simp [h]
  | some gw =>
    obtain ⟨g, want⟩ := gw
    simp only [hg] at h
    cases hd : (ops[g]?).bind (·.dst) with
    | none =>
      simp only [hd, Option.some.injEq] at h
      subst h
      simp [yielded, hd]
    | some d =>
      simp only [hd] at h
      have hv := hs.tmps d
      cases ht : t d with
      | bool x =>
        simp only [ht, Option.some.injEq] at h
        subst h
        rw [ht] at hv
        generalize hz : a.tmps.getD d undef = z at hv
        cases hv
        have hlt : d < a.tmps.size := by
          rcases Nat.lt_or_ge d a.tmps.size with hlt | hge
          · exact hlt
          · simp [undef, hge] at hz
        have : a.tmps[d]? = some (.bool x) := by
          simp [hlt] at hz
          simp [hlt, hz]
        simp [yielded, hd, this]
      | tup cs =>
        cases cs with
        | cons x cs => simp [ht] at h
        | nil =>
          simp only [ht, Option.some.injEq] at h
          subst h
          rw [ht] at hv
          have : ∀ x, a.tmps[d]? ≠ some (.bool x) := by
            intro x hx
            have : a.tmps.getD d undef = .bool x := by simp [hx]
            rw [this] at hv
            nomatch hv
          have hn : yielded ops a.tmps g = none := by
            unfold yielded
            rw [hd]
            cases hx : a.tmps[d]? with
            | none => simp [hx]
            | some y =>
              cases y with
              | bool x => exact absurd hx (this x)
              | _ => simp [hx]
          simp [hn]
      | _ => simp [ht] at h
structure Ef where
  skip : Bool
  v : V
  rd : List Nat
  tot : Bool
  wr : List (Nat × Option Blk)
  n : Nat
  n' : Nat
def dstOK (sz : Nat) : Option Nat → Bool
  | some d => decide (d < sz)
  | none => true
inductive Runs (E : Env) (sz : Nat) (ops : Array Oper) : List Oper → (Nat → V) → Heap → Nat → List Ef → (Nat → V) → Heap → Nat → Prop
  | nil (t : Nat → V) (h : Heap) (n : Nat) : Runs E sz ops [] t h n [] t h n
  | skip (o : Oper) (l : List Oper) (t : Nat → V) (h : Heap) (n : Nat) (es : List Ef) (t' : Nat → V) (h' : Heap) (n' : Nat) (hd : dstOK sz o.dst = true) (hg : guardV ops t o = some false)
      (hr : Runs E sz ops l (updO t o.dst (.tup [])) h n es t' h' n') : Runs E sz ops (o :: l) t h n (⟨true, .tup [], [], false, [], n, n⟩ :: es) t' h' n'
  | op (o : Oper) (l : List Oper) (t : Nat → V) (h : Heap) (n : Nat) (rd : List Nat) (tot : Bool) (v : V) (wr : List (Nat × Option Blk)) (n1 : Nat) (es : List Ef) (t' : Nat → V) (h' : Heap) (n' : Nat)
      (hd : dstOK sz o.dst = true) (hg : guardV ops t o = some true) (hop : OpOK E o t h n rd tot v wr n1) (hn : n ≤ n1) (hz : wr = [] → tot = false → n = n1)
      (hr : Runs E sz ops l (updO t o.dst v) (app wr h) n1 es t' h' n') : Runs E sz ops (o :: l) t h n (⟨false, v, rd, tot, wr, n, n1⟩ :: es) t' h' n'
theorem O9 {sz : Nat} {d : Option Nat} (h : dstOK sz d = true) : ∀ i, d = some i → i < sz := by
  intro i hi; subst hi; simpa [dstOK] using h
theorem Runs.le {E : Env} {sz : Nat} {ops : Array Oper} {l : List Oper} {t : Nat → V} {h : Heap} {n : Nat} {es : List Ef} {t' : Nat → V} {h' : Heap} {n' : Nat} (hr : Runs E sz ops l t h n es t' h' n') : n ≤ n' := by
  induction hr with
  | nil => exact Nat.le_refl _
  | skip _ _ _ _ _ _ _ _ _ _ _ _ ih => exact ih
  | op _ _ _ _ _ _ _ _ _ _ _ _ _ _ _ _ _ hn _ _ ih => exact Nat.le_trans hn ih
theorem Runs.seq {E : Env} {sz : Nat} {ops : Array Oper} {l : List Oper} {t : Nat → V} {h : Heap} {n : Nat} {es : List Ef} {t' : Nat → V} {h' : Heap} {n' : Nat}
    (hr : Runs E sz ops l t h n es t' h' n') {Q : Exit → Act → World → Prop} :
    ∀ (c : Cx) (a : Act), Slots sz t c a → Good E c h → (∀ id, n ≤ id → c.ρ id = none) →
      (∀ c' a', Ext c c' → Slots sz t' c' a' → Good E c' h' → (∀ id, c'.ρ id ≠ none → c.ρ id ≠ none ∨ (n ≤ id ∧ id < n')) → Q .normal a' c'.w) → wpList E.P ops Q l a c.w := by
  induction hr with
  | nil t h n => intro c a hs hg hf hq; exact hq c a (Ext.refl c) hs hg (fun id h => .inl h)
  | skip o l t h n es t' h' n' hd hgd _ ih =>
    intro c a hs hg hf hq
    unfold wpList
    rw [if_neg (by rw [AB hs hgd]; simp)]
    exact ih c _ (hs.put (O9 hd) (.undef _)) hg hf hq
  | op o l t h n rd tot v wr n1 es t' h' n' hd hgd hop hn _ hr ih =>
    intro c a hs hg hf hq
    unfold wpList
    rw [if_pos (AB hs hgd)]
    refine .inl (hop c a h _ _ hs.defers (fun x _ => eval_ok hs hg x) hg (fun _ _ => rfl) (fun _ => ⟨rfl, hf⟩) (fun id h1 _ => hf id h1) ?_)
    intro c' v' he hg' hdom hv
    refine ih c' _ ((hs.mono he).put (O9 hd) hv) hg' (fun id hid => ?_) (fun c2 a2 he2 hs2 hg2 hd2 => hq c2 a2 (he.trans he2) hs2 hg2 (fun id hid => ?_))
    · cases hc : c'.ρ id with
      | none => rfl
      | some p =>
        rcases hdom id (by simp [hc]) with h1 | h1
        · exact absurd (hf id (by omega)) h1
        · omega
    · have := hr.le
      rcases hd2 id hid with h1 | h1
      · rcases hdom id h1 with h2 | h2
        · exact .inl h2
        · exact .inr (by omega)
      · exact .inr (by omega)
def foldT : List (Option Nat × Ef) → (Nat → Bool) → (Nat → V) → Nat → V
  | [], _, t => t
  | (d, e) :: r, S, t => foldT r (fun j => S (j + 1)) (if S 0 then updO t d e.v else t)
def foldH : List (Option Nat × Ef) → (Nat → Bool) → Heap → Heap
  | [], _, h => h
  | (_, e) :: r, S, h => foldH r (fun j => S (j + 1)) (if S 0 then app e.wr h else h)
theorem updO_ne {α : Type} (f : Nat → α) {d : Option Nat} {i : Nat} (v : α) (h : d ≠ some i) : updO f d v i = f i := by
  cases d with
  | none => rfl
  | some d => exact upd_ne f v (fun e => h (by rw [e]))
theorem updO_eq {α : Type} (f g : Nat → α) {d : Option Nat} {i : Nat} (v : α) (h : d = some i) : updO f d v i = updO g d v i := by
  subst h; simp [updO]
theorem P0 (wr : List (Nat × Option Blk)) : ∀ (h : Heap) (id : Nat), id ∉ wr.map (·.1) → app wr h id = h id := by
  induction wr with
  | nil => intro h id _; rfl
  | cons x r ih =>
    intro h id hid
    obtain ⟨i, b⟩ := x
    simp only [List.map_cons, List.mem_cons, not_or] at hid
    simp only [app]
    rw [ih _ _ hid.2, upd_ne _ _ hid.1]
theorem app_mem (wr : List (Nat × Option Blk)) : ∀ (h g : Heap) (id : Nat), id ∈ wr.map (·.1) → app wr h id = app wr g id := by
  induction wr with
  | nil => intro h g id hid; simp at hid
  | cons x r ih =>
    intro h g id hid
    obtain ⟨i, b⟩ := x
    simp only [app]
    by_cases hr : id ∈ r.map (·.1)
    · exact ih _ _ _ hr
    · simp only [List.map_cons, List.mem_cons, hr, or_false] at hid
      rw [P0 _ _ _ hr, P0 _ _ _ hr]
      simp [hid, upd]
theorem I5 (l : List (Option Nat × Ef)) : ∀ (S S' : Nat → Bool) (t t' : Nat → V) (i : Nat), t i = t' i →
    (∀ j d e, l[j]? = some (d, e) → S j ≠ S' j → d ≠ some i) → foldT l S t i = foldT l S' t' i := by
  induction l with
  | nil => intro S S' t t' i h _; exact h
  | cons x r ih =>
    intro S S' t t' i h hd
    obtain ⟨d, e⟩ := x
    simp only [foldT]
    refine ih _ _ _ _ i ?_ (fun j d' e' hj hne => hd (j + 1) d' e' (by simpa using hj) hne)
    have h0 := hd 0 d e (by simp)
    by_cases hdi : d = some i
    · have : S 0 = S' 0 := by
        by_cases hh : S 0 = S' 0
        · exact hh
        · exact absurd hdi (h0 hh)
      rw [this]
      split
      · exact updO_eq _ _ _ hdi
      · exact h
    · split <;> split <;> simp [updO_ne _ _ hdi, h]
theorem H2 (l : List (Option Nat × Ef)) : ∀ (S S' : Nat → Bool) (h h' : Heap) (i : Nat), h i = h' i →
    (∀ j d e, l[j]? = some (d, e) → S j ≠ S' j → i ∉ e.wr.map (·.1)) → foldH l S h i = foldH l S' h' i := by
  induction l with
  | nil => intro S S' t t' i h _; exact h
  | cons x r ih =>
    intro S S' t t' i h hd
    obtain ⟨d, e⟩ := x
    simp only [foldH]
    refine ih _ _ _ _ i ?_ (fun j d' e' hj hne => hd (j + 1) d' e' (by simpa using hj) hne)
    have h0 := hd 0 d e (by simp)
    by_cases hdi : i ∈ e.wr.map (·.1)
    · have : S 0 = S' 0 := by
        by_cases hh : S 0 = S' 0
        · exact hh
        · exact absurd hdi (h0 hh)
      rw [this]
      split
      · exact app_mem _ _ _ _ hdi
      · exact h
    · split <;> split <;> simp [P0 _ _ _ hdi, h]
theorem foldT_hit (l : List (Option Nat × Ef)) : ∀ (S : Nat → Bool) (t s : Nat → V) (i k : Nat) (d : Option Nat) (e : Ef), l[k]? = some (d, e) → S k = true → d = some i →
    (∀ j d' e', l[j]? = some (d', e') → k < j → S j = true → d' ≠ some i) → foldT l S t i = updO s d e.v i := by
  induction l with
  | nil => intro S t s i k d e h; simp at h
  | cons x r ih =>
    intro S t s i k d e hk hS hd hj
    obtain ⟨d0, e0⟩ := x
    simp only [foldT]
    cases k with
    | zero =>
      simp only [List.getElem?_cons_zero, Option.some.injEq, Prod.mk.injEq] at hk
      obtain ⟨rfl, rfl⟩ := hk
      rw [hS, if_pos rfl, I5 r _ (fun _ => false) _ (updO t d0 e0.v) i rfl]
      · have hc : ∀ (l : List (Option Nat × Ef)) (t : Nat → V), foldT l (fun _ => false) t = t := by
          intro l; induction l with
          | nil => intro t; rfl
          | cons y l ih => intro t; obtain ⟨_, _⟩ := y; simp only [foldT]; exact ih t
        rw [hc]
        exact updO_eq _ _ _ hd
      · intro j d' e' hj' hne
        refine hj (j + 1) d' e' (by simpa using hj') (by omega) ?_
        simpa using hne
    | succ k =>
      exact ih _ _ s i k d e (by simpa using hk) hS hd (fun j d' e' h1 h2 h3 => hj (j + 1) d' e' (by simpa using h1) (by omega) h3)
theorem foldH_hit (l : List (Option Nat × Ef)) : ∀ (S : Nat → Bool) (t s : Heap) (i k : Nat) (d : Option Nat) (e : Ef), l[k]? = some (d, e) → S k = true → i ∈ e.wr.map (·.1) →
    (∀ j d' e', l[j]? = some (d', e') → k < j → S j = true → i ∉ e'.wr.map (·.1)) → foldH l S t i = app e.wr s i := by
  induction l with
  | nil => intro S t s i k d e h; simp at h
  | cons x r ih =>
    intro S t s i k d e hk hS hd hj
    obtain ⟨d0, e0⟩ := x
    simp only [foldH]
    cases k with
    | zero =>
      simp only [List.getElem?_cons_zero, Option.some.injEq, Prod.mk.injEq] at hk
      obtain ⟨rfl, rfl⟩ := hk
      rw [hS, if_pos rfl, H2 r _ (fun _ => false) _ (app e0.wr t) i rfl]
      · have hc : ∀ (l : List (Option Nat × Ef)) (t : Heap), foldH l (fun _ => false) t = t := by
          intro l; induction l with
          | nil => intro t; rfl
          | cons y l ih => intro t; obtain ⟨_, _⟩ := y; simp only [foldH]; exact ih t
        rw [hc]
        exact app_mem _ _ _ _ hd
      · intro j d' e' hj' hne
        refine hj (j + 1) d' e' (by simpa using hj') (by omega) ?_
        simpa using hne
    | succ k =>
      exact ih _ _ s i k d e (by simpa using hk) hS hd (fun j d' e' h1 h2 h3 => hj (j + 1) d' e' (by simpa using h1) (by omega) h3)
end Go.V
namespace Go.V
open Go.RowKit (Below)
set_option linter.unusedSimpArgs false
set_option linter.unusedVariables false
def maskOf (o : Oper) (bl : List Nat) : Nat :=
  o.after.toList.foldl (fun s e => if Region.binds .any e then s ||| 2 ^ e.on ||| bl.getD e.on 0 else s) 0
def statOK (ops : Array Oper) (bl : List Nat) : Bool :=
  (List.range ops.size).all fun j => match ops[j]? with
    | none => true
    | some o => bl.getD j 0 == maskOf o bl && (o.after.toList.all fun e => !Region.binds .any e || decide (e.on < j)) && (match o.op with | .select .. => false | _ => true) &&
      (List.range j).all fun i => (bl.getD j 0).testBit i || (match ops[i]? with | some p => p.apart ops o | none => true)
def Ef.cls (e : Ef) : Nat :=
  match e.tot, e.wr, e.rd with
  | false, [], [] => 0
  | false, [], _ => 1
  | _, _, _ => 3
def compat : Nat → Nat → Bool
  | 0, _ => true
  | _, 0 => true
  | 1, 1 => true
  | _, _ => false
def residE (size : Nat) (bl : List Nat) (es : List Ef) : List (Nat × Nat) :=
  (List.range size).flatMap fun j => (List.range j).filterMap fun i =>
    if (bl.getD j 0).testBit i then none else
    match es[i]?, es[j]? with
    | some e, some f => if compat e.cls f.cls then none else some (i, j)
    | _, _ => none
def ids (wr : List (Nat × Option Blk)) : List Nat := wr.map (·.1)
structure NoClash (e f : Ef) : Prop where
  wr : ∀ x ∈ ids e.wr, x ∉ f.rd ∧ x ∉ ids f.wr
  wl : ∀ x ∈ ids f.wr, x ∉ e.rd
  tr : e.tot = true → f.wr = [] ∧ f.tot = false
  tl : f.tot = true → e.wr = [] ∧ e.tot = false
theorem NoClash.symm {e f : Ef} (h : NoClash e f) : NoClash f e :=
  ⟨fun x hx => ⟨h.wl x hx, fun hy => (h.wr x hy).2 hx⟩, fun x hx => (h.wr x hx).1, h.tl, h.tr⟩
def ClearL (es : List Ef) : List (Nat × Nat) → Prop
  | [] => True
  | (i, j) :: r => (match es[i]?, es[j]? with
      | some e, some f => (e.tot = true → f.wr = [] ∧ f.tot = false) ∧ (f.tot = true → e.wr = [] ∧ e.tot = false) ∧ (∀ x ∈ ids e.wr, x ∉ f.rd ∧ x ∉ ids f.wr) ∧ (∀ x ∈ ids f.wr, x ∉ e.rd)
      | _, _ => True) ∧ ClearL es r
theorem ClearL.spec {es : List Ef} {rs : List (Nat × Nat)} (h : ClearL es rs) {i j : Nat} (hm : (i, j) ∈ rs) {e f : Ef} (he : es[i]? = some e) (hf : es[j]? = some f) : NoClash e f := by
  induction rs with
  | nil => simp at hm
  | cons x r ih =>
    obtain ⟨a, b⟩ := x
    obtain ⟨h1, h2⟩ := h
    simp only [List.mem_cons, Prod.mk.injEq] at hm
    rcases hm with ⟨rfl, rfl⟩ | hm
    · simp only [he, hf] at h1
      exact ⟨h1.2.2.1, h1.2.2.2, h1.1, h1.2.1⟩
    · exact ih h2 hm
theorem compat_clash {e f : Ef} (h : compat e.cls f.cls = true) : NoClash e f := by
  unfold Ef.cls at h
  obtain ⟨es, ev, erd, et, ewr, en, en'⟩ := e
  obtain ⟨fs, fv, frd, ft, fwr, fn, fn'⟩ := f
  cases et <;> cases ewr <;> cases erd <;> cases ft <;> cases fwr <;> cases frd <;> first
    | (simp [compat] at h; done)
    | (constructor <;> simp [ids]; done)
def Un (bl : List Nat) (i j : Nat) : Prop := (i < j ∧ (bl.getD j 0).testBit i = false) ∨ (j < i ∧ (bl.getD i 0).testBit j = false)
theorem Un.clash {size : Nat} {bl : List Nat} {es : List Ef} {rs : List (Nat × Nat)} (hres : residE size bl es = rs) (hcl : ClearL es rs) {i j : Nat} (hi : i < size) (hj : j < size)
    (hu : Un bl i j) {e f : Ef} (he : es[i]? = some e) (hf : es[j]? = some f) : NoClash e f := by
  have key : ∀ a b (x y : Ef), a < b → b < size → (bl.getD b 0).testBit a = false → es[a]? = some x → es[b]? = some y → NoClash x y := by
    intro a b x y hab hb ht hx hy
    cases hc : compat x.cls y.cls with
    | true => exact compat_clash hc
    | false =>
      refine hcl.spec (i := a) (j := b) ?_ hx hy
      rw [← hres]
      unfold residE
      refine List.mem_flatMap.2 ⟨b, List.mem_range.2 hb, List.mem_filterMap.2 ⟨a, List.mem_range.2 hab, ?_⟩⟩
      rw [if_neg (by rw [ht]; simp), hx, hy]
      simp [hc]
  rcases hu with ⟨h1, h2⟩ | ⟨h1, h2⟩
  · exact key i j e f h1 hj h2 he hf
  · exact (key j i f e h1 hi h2 hf he).symm
theorem testBit_fold (l : List Edge) (bl : List Nat) : ∀ (s k : Nat), (l.foldl (fun s e => if Region.binds .any e then s ||| 2 ^ e.on ||| bl.getD e.on 0 else s) s).testBit k = true →
    s.testBit k = true ∨ ∃ e ∈ l, Region.binds .any e = true ∧ (e.on = k ∨ (bl.getD e.on 0).testBit k = true) := by
  induction l with
  | nil => intro s k h; exact .inl h
  | cons e r ih =>
    intro s k h
    simp only [List.foldl_cons] at h
    rcases ih _ k h with h1 | ⟨e', he', h2⟩
    · split at h1
      · rename_i hb
        simp only [Nat.testBit_or, Bool.or_eq_true, Nat.testBit_two_pow, decide_eq_true_eq] at h1
        rcases h1 with (h1 | h1) | h1
        · exact .inl h1
        · exact .inr ⟨e, by simp, hb, .inl h1⟩
        · exact .inr ⟨e, by simp, hb, .inr h1⟩
      · exact .inl h1
    · exact .inr ⟨e', by simp [he'], h2⟩
theorem N2 {ops : Array Oper} {bl : List Nat} (h : statOK ops bl = true) {j : Nat} {o : Oper} (ho : ops[j]? = some o) :
    (∀ k, (bl.getD j 0).testBit k = true → ∃ e ∈ o.after, Region.binds .any e = true ∧ (e.on = k ∨ (bl.getD e.on 0).testBit k = true)) ∧
    (∀ e ∈ o.after, Region.binds .any e = true → e.on < j) ∧ (∀ cs b, o.op ≠ .select cs b) ∧
    (∀ i p, i < j → ops[i]? = some p → (bl.getD j 0).testBit i = false → p.apart ops o = true) := by
  have hj : j < ops.size := (Array.getElem?_eq_some_iff.1 ho).1
  have h1 := (List.all_eq_true.1 h) j (List.mem_range.2 hj)
  simp only [ho, Bool.and_eq_true, beq_iff_eq] at h1
  obtain ⟨⟨⟨h2, h3⟩, h4⟩, h5⟩ := h1
  refine ⟨fun k hk => ?_, fun e he hb => ?_, fun cs b hc => by simp [hc] at h4, fun i p hi hp ht => ?_⟩
  · rw [h2] at hk
    rcases testBit_fold _ _ _ _ hk with h6 | ⟨e, he, h6⟩
    · simp at h6
    · exact ⟨e, by simpa using he, h6⟩
  · have := (List.all_eq_true.1 h3) e (by simpa using he)
    simpa [hb] using this
  · have := (List.all_eq_true.1 h5) i (List.mem_range.2 hi)
    rw [ht, hp] at this
    simpa using this
theorem Un.apart {ops : Array Oper} {bl : List Nat} (h : statOK ops bl = true) {i j : Nat} {o p : Oper} (ho : ops[i]? = some o) (hp : ops[j]? = some p) (hu : Un bl i j) :
    (∀ d, p.dst = some d → d ∉ o.looksAt ops) ∧ (∀ d, p.dst = some d → o.dst ≠ some d) := by
  rcases hu with ⟨h1, h2⟩ | ⟨h1, h2⟩
  · have := Oper.apart_spec ((N2 h hp).2.2.2 i o h1 ho h2)
    exact ⟨this.2.2, fun d hd hd' => this.2.1 d hd' hd⟩
  · have := Oper.apart_spec ((N2 h ho).2.2.2 j p h1 hp h2)
    exact ⟨this.1, fun d hd hd' => this.2.1 d hd hd'⟩
structure OpFact (E : Env) (sz : Nat) (ops : Array Oper) (o : Oper) (e : Ef) (t : Nat → V) (h : Heap) : Prop where
  dst : dstOK sz o.dst = true
  le : e.n ≤ e.n'
  same : e.wr = [] → e.tot = false → e.n = e.n'
  does : (e.skip = true ∧ guardV ops t o = some false ∧ e.v = .tup [] ∧ e.wr = [] ∧ e.rd = [] ∧ e.tot = false) ∨
    (e.skip = false ∧ guardV ops t o = some true ∧ OpOK E o t h e.n e.rd e.tot e.v e.wr e.n')
theorem getElem?_zip {α β : Type} {l : List α} {m : List β} {i : Nat} {x : α} {y : β} (h : l[i]? = some x) (k : m[i]? = some y) : (l.zip m)[i]? = some (x, y) := by
  simp [List.getElem?_zip_eq_some, h, k]
theorem Runs.facts {E : Env} {sz : Nat} {ops : Array Oper} {l : List Oper} {t : Nat → V} {h : Heap} {n : Nat} {es : List Ef} {t' : Nat → V} {h' : Heap} {n' : Nat}
    (hr : Runs E sz ops l t h n es t' h' n') :
    es.length = l.length ∧ n ≤ n' ∧ t' = foldT ((l.map (·.dst)).zip es) (fun _ => true) t ∧ h' = foldH ((l.map (·.dst)).zip es) (fun _ => true) h ∧
    (∀ (i : Nat) (e : Ef), es[i]? = some e → n ≤ e.n ∧ e.n ≤ e.n' ∧ e.n' ≤ n' ∧ ∀ (j : Nat) (f : Ef), es[j]? = some f → i < j → e.n' ≤ f.n) ∧
    (∀ (i : Nat) (o : Oper) (e : Ef), l[i]? = some o → es[i]? = some e →
      OpFact E sz ops o e (foldT ((l.map (·.dst)).zip es) (fun j => decide (j < i)) t) (foldH ((l.map (·.dst)).zip es) (fun j => decide (j < i)) h)) := by
  have foldT_none : ∀ (l : List (Option Nat × Ef)) (t : Nat → V), foldT l (fun _ => false) t = t := by
    intro l; induction l with
    | nil => intro t; rfl
    | cons y l ih => intro t; obtain ⟨_, _⟩ := y; simp only [foldT]; exact ih t
  have foldH_none : ∀ (l : List (Option Nat × Ef)) (t : Heap), foldH l (fun _ => false) t = t := by
    intro l; induction l with
    | nil => intro t; rfl
    | cons y l ih => intro t; obtain ⟨_, _⟩ := y; simp only [foldH]; exact ih t
  have sh : ∀ i : Nat, (fun j => decide (j + 1 < i + 1)) = (fun j => decide (j < i)) := fun i => by funext j; simp
  have sz0 : (fun j => decide (j + 1 < 0)) = (fun _ => false) := by funext j; simp
  have s00 : (fun j : Nat => decide (j < 0)) = (fun _ => false) := by funext j; simp
  induction hr with
  | nil t h n => exact ⟨rfl, Nat.le_refl _, rfl, rfl, by simp, by simp⟩
  | skip o l t h n es t' h' n' hd hg _ ih =>
    obtain ⟨h1, h2, h3, h4, h5, h6⟩ := ih
    refine ⟨by simp [h1], h2, by simp only [List.map_cons, List.zip_cons_cons, foldT]; exact h3, by simp only [List.map_cons, List.zip_cons_cons, foldH]; exact h4, ?_, ?_⟩
    · intro i e he
      cases i with
      | zero =>
        simp only [List.getElem?_cons_zero, Option.some.injEq] at he
        subst he
        refine ⟨Nat.le_refl _, Nat.le_refl _, h2, fun j f hf hj => ?_⟩
        cases j with
        | zero => omega
        | succ j => exact (h5 j f (by simpa using hf)).1
      | succ i =>
        obtain ⟨a1, a2, a3, a4⟩ := h5 i e (by simpa using he)
        refine ⟨a1, a2, a3, fun j f hf hj => ?_⟩
        cases j with
        | zero => omega
        | succ j => exact a4 j f (by simpa using hf) (by omega)
    · intro i p e hp he
      cases i with
      | zero =>
        simp only [List.getElem?_cons_zero, Option.some.injEq] at hp he
        subst hp; subst he
        simp only [List.map_cons, List.zip_cons_cons, foldT, foldH, s00, foldT_none, foldH_none, Bool.false_eq_true, if_false]
        exact ⟨hd, Nat.le_refl _, fun _ _ => rfl, .inl ⟨rfl, hg, rfl, rfl, rfl, rfl⟩⟩
      | succ i =>
        have := h6 i p e (by simpa using hp) (by simpa using he)
        simp only [List.map_cons, List.zip_cons_cons, foldT, foldH, sh]
        simpa [app] using this
  | op o l t h n rd tot v wr n1 es t' h' n' hd hg hop hn hz _ ih =>
    obtain ⟨h1, h2, h3, h4, h5, h6⟩ := ih
    refine ⟨by simp [h1], Nat.le_trans hn h2, by simp only [List.map_cons, List.zip_cons_cons, foldT]; exact h3, by simp only [List.map_cons, List.zip_cons_cons, foldH]; exact h4, ?_, ?_⟩
    · intro i e he
      cases i with
      | zero =>
        simp only [List.getElem?_cons_zero, Option.some.injEq] at he
        subst he
        refine ⟨Nat.le_refl _, hn, h2, fun j f hf hj => ?_⟩
        cases j with
        | zero => omega
        | succ j => exact (h5 j f (by simpa using hf)).1
      | succ i =>
        obtain ⟨a1, a2, a3, a4⟩ := h5 i e (by simpa using he)
        refine ⟨Nat.le_trans hn a1, a2, a3, fun j f hf hj => ?_⟩
        cases j with
        | zero => omega
        | succ j => exact a4 j f (by simpa using hf) (by omega)
    · intro i p e hp he
      cases i with
      | zero =>
        simp only [List.getElem?_cons_zero, Option.some.injEq] at hp he
        subst hp; subst he
        simp only [List.map_cons, List.zip_cons_cons, foldT, foldH, s00, foldT_none, foldH_none, Bool.false_eq_true, if_false]
        exact ⟨hd, hn, hz, .inr ⟨rfl, hg, hop⟩⟩
      | succ i =>
        have := h6 i p e (by simpa using hp) (by simpa using he)
        simp only [List.map_cons, List.zip_cons_cons, foldT, foldH, sh]
        simpa using this
def inS (listed : Array Bool) (j : Nat) : Bool := listed.getD j false
def unl (listed : Array Bool) : Nat := listed.toList.count false
theorem unl_set {listed : Array Bool} {i : Nat} (h : listed.getD i true = false) : unl (listed.setIfInBounds i true) + 1 = unl listed := by
  have hi : i < listed.size := by
    rcases Nat.lt_or_ge i listed.size with h' | h'
    · exact h'
    · simp [Array.getElem?_eq_none h'] at h
  have hv : listed[i] = false := by simpa [hi] using h
  unfold unl
  have h1 : (listed.setIfInBounds i true).toList = listed.toList.set i true := by simp
  rw [h1, List.count_set (by simpa using hi)]
  have h2 : listed.toList[i]'(by simpa using hi) = false := by simpa using hv
  have h3 : 0 < listed.toList.count false := by
    rw [List.count_pos_iff]
    rw [← h2]
    exact List.getElem_mem _
  have e1 : (false == false) = true := rfl
  have e2 : (true == false) = false := rfl
  simp only [h2, e1, e2, if_true, Bool.false_eq_true, if_false]
  omega
theorem unl_zero {listed : Array Bool} (h : unl listed = 0) {i : Nat} (hi : i < listed.size) : listed.getD i false = true := by
  unfold unl at h
  rw [List.count_eq_zero] at h
  have : listed[i] ≠ false := fun e => h (by rw [← e]; simp)
  simpa [hi] using this
section draw
variable {E : Env} {sz : Nat} {ops : Array Oper} {t : Nat → V} {h : Heap} {n : Nat} {es : List Ef} {t' : Nat → V} {h' : Heap} {n' : Nat}
theorem draw_any (bl : List Nat) (rs : List (Nat × Nat)) (hst : statOK ops bl = true) (hr : Runs E sz ops ops.toList t h n es t' h' n')
    (hres : residE ops.size bl es = rs) (hcl : ClearL es rs) {Q : Exit → Act → World → Prop} (c0 : Cx) (hf0 : ∀ id, n ≤ id → c0.ρ id = none)
    (hq : ∀ c' a', Ext c0 c' → Slots sz t' c' a' → Good E c' h' → (∀ id, c'.ρ id ≠ none → c0.ρ id ≠ none ∨ (n ≤ id ∧ id < n')) → Q .normal a' c'.w) :
    ∀ (fuel : Nat) (listed : Array Bool) (c : Cx) (a : Act), listed.size = ops.size → (∀ j, inS listed j = true → ∀ k, (bl.getD j 0).testBit k = true → inS listed k = true) → Ext c0 c →
      Slots sz (foldT ((ops.toList.map (·.dst)).zip es) (inS listed) t) c a → Good E c (foldH ((ops.toList.map (·.dst)).zip es) (inS listed) h) →
      (∀ id, c.ρ id ≠ none → c0.ρ id ≠ none ∨ ∃ j e, es[j]? = some e ∧ inS listed j = true ∧ e.n ≤ id ∧ id < e.n') → unl listed ≤ fuel → wpAny E.P .any ops Q fuel listed a c.w := by
  obtain ⟨f1, f2, f3, f4, f5, f6⟩ := hr.facts
  have hsome : ∀ i, i < ops.size → ∃ o e, ops[i]? = some o ∧ es[i]? = some e := fun i hi =>
    ⟨ops[i], es[i]'(by simp [f1, hi]), by simp [hi], by simp [f1, hi]⟩
  
  have fin : ∀ (listed : Array Bool) (c : Cx) (a : Act), listed.size = ops.size → Ext c0 c → Slots sz (foldT ((ops.toList.map (·.dst)).zip es) (inS listed) t) c a →
      Good E c (foldH ((ops.toList.map (·.dst)).zip es) (inS listed) h) → (∀ id, c.ρ id ≠ none → c0.ρ id ≠ none ∨ ∃ j e, es[j]? = some e ∧ inS listed j = true ∧ e.n ≤ id ∧ id < e.n') →
      (∀ i, i < ops.size → inS listed i = true) → Q .normal a c.w := by
    intro listed c a hsz hx hs hg hd hall
    have hlt : ∀ j d e, ((ops.toList.map (·.dst)).zip es)[j]? = some (d, e) → j < ops.size := by
      intro j d e hj
      have := (List.getElem?_eq_some_iff.1 hj).1
      simp only [List.length_zip, List.length_map, Array.length_toList] at this
      omega
    have ht : foldT ((ops.toList.map (·.dst)).zip es) (inS listed) t = t' := by
      rw [f3]; funext i
      exact I5 _ _ _ _ _ i rfl (fun j d e hj hne => absurd (hall j (hlt j d e hj)) hne)
    have hh : foldH ((ops.toList.map (·.dst)).zip es) (inS listed) h = h' := by
      rw [f4]; funext i
      exact H2 _ _ _ _ _ i rfl (fun j d e hj hne => absurd (hall j (hlt j d e hj)) hne)
    rw [ht] at hs
    rw [hh] at hg
    refine hq c a hx hs hg (fun id hid => ?_)
    rcases hd id hid with h1 | ⟨j, e, he, _, h2, h3⟩
    · exact .inl h1
    · have := (f5 j e he).2.2.1
      have := (f5 j e he).1
      exact .inr (by omega)
  
  have rdy : ∀ (listed : Array Bool), listed.size = ops.size → Region.ready .any ops listed = [] → ∀ i, i < ops.size → inS listed i = true := by
    intro listed hsz hr0 i
    induction i using Nat.strongRecOn with
    | _ i ih =>
      intro hi
      obtain ⟨o, e, ho, he⟩ := hsome i hi
      cases hc : inS listed i with
      | true => rfl
      | false =>
        have : i ∈ Region.ready .any ops listed := by
          rw [mem_ready]
          refine ⟨by simpa [inS, hsz, hi] using hc, o, ho, fun ed hed hb => ?_⟩
          have hlt := (N2 hst ho).2.1 ed hed hb
          exact ih ed.on hlt (by omega)
        rw [hr0] at this
        simp at this
  intro fuel
  induction fuel with
  | zero =>
    intro listed c a hsz hcl' hx hs hg hd hu
    have hall : ∀ i, i < ops.size → inS listed i = true := fun i hi => unl_zero (by omega) (by omega)
    refine ⟨?_, fin listed c a hsz hx hs hg hd hall⟩
    rw [List.eq_nil_iff_forall_not_mem]
    intro i hi
    obtain ⟨h0, o, ho, _⟩ := mem_ready.1 hi
    have hlt : i < ops.size := (Array.getElem?_eq_some_iff.1 ho).1
    have := hall i hlt
    simp [inS, hsz, hlt] at this h0
    simp [this] at h0
  | succ fuel ih =>
    intro listed c a hsz hcl' hx hs hg hd hu
    refine ⟨fun hr0 => fin listed c a hsz hx hs hg hd (rdy listed hsz hr0), fun i hi => ?_⟩
    obtain ⟨h0, o, ho, hed⟩ := mem_ready.1 hi
    have hlt : i < ops.size := (Array.getElem?_eq_some_iff.1 ho).1
    have hSi : inS listed i = false := by simpa [inS, hsz, hlt] using h0
    obtain ⟨o', e, ho', he⟩ := hsome i hlt
    rw [ho] at ho'; obtain rfl := Option.some.inj ho'
    have hbi : ∀ k, (bl.getD i 0).testBit k = true → inS listed k = true := by
      intro k hk
      obtain ⟨ed, hed1, hb, h2⟩ := (N2 hst ho).1 k hk
      have h3 : inS listed ed.on = true := hed ed hed1 hb
      rcases h2 with rfl | h2
      · exact h3
      · exact hcl' _ h3 k h2
    
    have hun : ∀ j, j < ops.size → inS listed j ≠ decide (j < i) → j ≠ i ∧ Un bl i j := by
      intro j hj hne
      by_cases hji : j < i
      · refine ⟨by omega, .inr ⟨hji, ?_⟩⟩
        cases hb : (bl.getD i 0).testBit j with
        | false => rfl
        | true => exact absurd (by rw [hbi j hb]; simp [hji]) hne
      · have hSj : inS listed j = true := by
          cases hb : inS listed j with
          | true => rfl
          | false => exact absurd (by rw [hb]; simp [hji]) hne
        have hne' : j ≠ i := fun e => by rw [e, hSi] at hSj; simp at hSj
        refine ⟨hne', .inl ⟨by omega, ?_⟩⟩
        cases hb : (bl.getD j 0).testBit i with
        | false => rfl
        | true => have := hcl' j hSj i hb; rw [hSi] at this; simp at this
    have hzip : ∀ j d f, ((ops.toList.map (·.dst)).zip es)[j]? = some (d, f) → ∃ p, ops[j]? = some p ∧ d = p.dst ∧ es[j]? = some f ∧ j < ops.size := by
      intro j d f hj
      rw [List.getElem?_zip_eq_some] at hj
      obtain ⟨h1, h2⟩ := hj
      rw [List.getElem?_map] at h1
      cases hp : ops.toList[j]? with
      | none => simp [hp] at h1
      | some p =>
        simp only [hp, Option.map_some, Option.some.injEq] at h1
        refine ⟨p, by simpa using hp, h1.symm, h2, ?_⟩
        have := (List.getElem?_eq_some_iff.1 hp).1
        simpa using this
    have hzi : ((ops.toList.map (·.dst)).zip es)[i]? = some (o.dst, e) := getElem?_zip (by simp [List.getElem?_map, ho]) he
    have hfact := f6 i o e (by simpa using ho) he
    
    have hlook : ∀ d, d ∈ o.looksAt ops → foldT ((ops.toList.map (·.dst)).zip es) (inS listed) t d = foldT ((ops.toList.map (·.dst)).zip es) (fun j => decide (j < i)) t d := by
      intro d hdl
      refine I5 _ _ _ _ _ d rfl (fun j dj f hj hne hdj => ?_)
      obtain ⟨p, hp, rfl, hf, hjs⟩ := hzip j dj f hj
      exact ((hun j hjs hne).2.apart hst ho hp).1 d hdj hdl
    have hclash : ∀ j f, j < ops.size → es[j]? = some f → inS listed j ≠ decide (j < i) → NoClash e f := fun j f hj hf hne =>
      Un.clash hres hcl hlt hj (hun j hj hne).2 he hf
    have hheap : ∀ id, id ∈ e.rd → foldH ((ops.toList.map (·.dst)).zip es) (inS listed) h id = foldH ((ops.toList.map (·.dst)).zip es) (fun j => decide (j < i)) h id := by
      intro id hid
      refine H2 _ _ _ _ _ id rfl (fun j dj f hj hne hdj => ?_)
      obtain ⟨p, hp, rfl, hf, hjs⟩ := hzip j dj f hj
      exact (hclash j f hjs hf hne).wl id hdj hid
    
    have hS' : ∀ j, inS (listed.setIfInBounds i true) j = if j = i then true else inS listed j := by
      intro j
      by_cases hji : j = i
      · subst hji; simp [inS, hsz, hlt]
      · rw [if_neg hji]; unfold inS; exact getD_set_ne false (Ne.symm hji)
    have hnext : ∀ (c' : Cx) (v' : Value), Ext c c' → Good E c' (app e.wr (foldH ((ops.toList.map (·.dst)).zip es) (inS listed) h)) →
        (∀ id, c'.ρ id ≠ none → c.ρ id ≠ none ∨ (e.n ≤ id ∧ id < e.n')) → VR c' e.v v' → wpAny E.P .any ops Q fuel (listed.setIfInBounds i true) (a.put o.dst v') c'.w := by
      intro c' v' hx' hg' hd' hv'
      have hT : foldT ((ops.toList.map (·.dst)).zip es) (inS (listed.setIfInBounds i true)) t = updO (foldT ((ops.toList.map (·.dst)).zip es) (inS listed) t) o.dst e.v := by
        funext k
        by_cases hk : o.dst = some k
        · refine foldT_hit _ _ _ _ k i o.dst e hzi (by rw [hS' i, if_pos rfl]) hk (fun j dj f hj hij hSj hdk => ?_)
          obtain ⟨p, hp, rfl, hf, hjs⟩ := hzip j dj f hj
          have hne : inS listed j ≠ decide (j < i) := by
            rw [hS' j, if_neg (by omega)] at hSj
            rw [hSj]; simp; omega
          exact ((hun j hjs hne).2.apart hst ho hp).2 k hdk hk
        · rw [updO_ne _ _ hk]
          refine I5 _ _ _ _ _ k rfl (fun j dj f hj hne hdk => ?_)
          rw [hS' j] at hne
          by_cases hji : j = i
          · subst hji; rw [hzi] at hj; simp only [Option.some.injEq, Prod.mk.injEq] at hj; exact hk (hj.1.trans hdk)
          · rw [if_neg hji] at hne; exact hne rfl
      have hH : foldH ((ops.toList.map (·.dst)).zip es) (inS (listed.setIfInBounds i true)) h = app e.wr (foldH ((ops.toList.map (·.dst)).zip es) (inS listed) h) := by
        funext k
        by_cases hk : k ∈ e.wr.map (·.1)
        · refine foldH_hit _ _ _ _ k i o.dst e hzi (by rw [hS' i, if_pos rfl]) hk (fun j dj f hj hij hSj hdk => ?_)
          obtain ⟨p, hp, rfl, hf, hjs⟩ := hzip j dj f hj
          have hne : inS listed j ≠ decide (j < i) := by
            rw [hS' j, if_neg (by omega)] at hSj
            rw [hSj]; simp; omega
          exact ((hclash j f hjs hf hne).wr k hk).2 hdk
        · rw [P0 _ _ _ hk]
          refine H2 _ _ _ _ _ k rfl (fun j dj f hj hne hdk => ?_)
          rw [hS' j] at hne
          by_cases hji : j = i
          · subst hji; rw [hzi] at hj; simp only [Option.some.injEq, Prod.mk.injEq] at hj; rw [← hj.2] at hdk; exact hk hdk
          · rw [if_neg hji] at hne; exact hne rfl
      refine ih _ c' _ (by simpa using hsz) ?_ (hx.trans hx') (by rw [hT]; exact (hs.mono hx').put (O9 hfact.dst) hv') (by rw [hH]; exact hg') ?_ ?_
      · intro j hj k hk
        rw [hS' k]
        rw [hS' j] at hj
        split
        · rfl
        · split at hj
          · rename_i hji; subst hji; exact hbi k hk
          · exact hcl' j hj k hk
      · intro id hid
        rcases hd' id hid with h1 | h1
        · rcases hd id h1 with h2 | ⟨j, f, hf, hSj, h3⟩
          · exact .inl h2
          · refine .inr ⟨j, f, hf, ?_, h3⟩
            rw [hS' j]; split
            · rfl
            · exact hSj
        · exact .inr ⟨i, e, he, by rw [hS' i, if_pos rfl], h1⟩
      · have := unl_set h0
        omega
    
    unfold wpOp
    simp only [ho]
    have hgv : ∀ b, guardV ops (foldT ((ops.toList.map (·.dst)).zip es) (fun j => decide (j < i)) t) o = some b → Region.wanted o (yielded ops a.tmps) = b := by
      intro b hb
      refine AB hs ?_
      rw [← hb]
      unfold guardV
      cases hgd : o.guard with
      | none => rfl
      | some gw =>
        obtain ⟨g, want⟩ := gw
        cases hgo : (ops[g]?).bind (·.dst) with
        | none => simp only [hgo]
        | some d =>
          simp only [hgo]
          rw [hlook d (by simp [Oper.looksAt, hgd, hgo])]
    rcases hfact.does with ⟨hsk, hgd, hv, hwr, hrd, htot⟩ | ⟨hsk, hgd, hop⟩
    · rw [if_neg (by rw [hgv _ hgd]; simp)]
      refine hnext c undef (Ext.refl c) ?_ (fun id hid => .inl hid) (by rw [hv]; exact .undef _)
      rw [hwr]; exact hg
    · rw [if_pos (hgv _ hgd)]
      refine .inl (hop c a _ _ _ hs.defers (fun x hxo => ?_) hg hheap (fun htot => ⟨?_, fun id hid => ?_⟩) (fun id hid1 hid2 => ?_) hnext)
      · have h1 := eval_ok hs hg x
        have : E.eval (foldT ((ops.toList.map (·.dst)).zip es) (inS listed) t) x = E.eval (foldT ((ops.toList.map (·.dst)).zip es) (fun j => decide (j < i)) t) x := by
          cases x with
          | tmp d => exact hlook d (by simp only [Oper.looksAt]; exact List.mem_append_left _ (List.mem_filterMap.2 ⟨.tmp d, by simpa using hxo, rfl⟩))
          | _ => rfl
        rw [← this]; exact h1
      · funext id
        refine H2 _ _ _ _ _ id rfl (fun j dj f hj hne hdj => ?_)
        obtain ⟨p, hp, rfl, hf, hjs⟩ := hzip j dj f hj
        have := ((hclash j f hjs hf hne).tr htot).1
        rw [this] at hdj; simp at hdj
      · cases hc : c.ρ id with
        | none => rfl
        | some p =>
          rcases hd id (by simp [hc]) with h1 | ⟨j, f, hf, hSj, h2, h3⟩
          · exact absurd (hf0 id (by have := (f5 i e he).1; omega)) h1
          · have hjs : j < ops.size := by
              have := (List.getElem?_eq_some_iff.1 hf).1
              simp only [f1, Array.length_toList] at this; exact this
            by_cases hji : j < i
            · have := (f5 j f hf).2.2.2 i e he hji; omega
            · have hne : inS listed j ≠ decide (j < i) := by rw [hSj]; simp; omega
              have hcz := (hclash j f hjs hf hne).tr htot
              obtain ⟨p', e', hp', he'⟩ := hsome j hjs
              rw [hf] at he'; obtain rfl := Option.some.inj he'
              have := (f6 j p' f (by simpa using hp') hf).same hcz.1 hcz.2
              omega
      · cases hc : c.ρ id with
        | none => rfl
        | some p =>
          rcases hd id (by simp [hc]) with h1 | ⟨j, f, hf, hSj, h2, h3⟩
          · exact absurd (hf0 id (by have := (f5 i e he).1; omega)) h1
          · have hji : j ≠ i := fun ej => by rw [ej, hSi] at hSj; simp at hSj
            rcases Nat.lt_or_gt_of_ne hji with hlt' | hgt
            · have := (f5 j f hf).2.2.2 i e he hlt'; omega
            · have := (f5 i e he).2.2.2 j f hf hgt; omega
end draw
end Go.V
namespace Go.V
open Go.RowKit (Below)
set_option linter.unusedSimpArgs false
set_option linter.unusedVariables false
theorem Ext.same (c : Cx) {w' : World} (G0 : w'.os = c.w.os ∧ w'.tape = c.w.tape ∧ w'.output = c.w.output ∧ w'.heap = c.w.heap) : Ext c { c with w := w' } := have ⟨ho, ht, hu, hh⟩ := G0;
  ⟨rfl, fun _ _ h => h, fun _ h => h, fun _ _ => by simp [hh], ⟨ho, ht, hu, by simp [hh], fun _ _ => by simp [hh]⟩⟩
theorem Good.same {E : Env} {c : Cx} {h : Heap} (hg : Good E c h) {w' : World} (hx : Ext c { c with w := w' }) (hh : w'.heap = c.w.heap) : Good E { c with w := w' } h where
  blk := fun id b hb => by
    obtain ⟨p, h1, h2, h3⟩ := hg.blk id b hb
    exact ⟨p, h1, fun hm => (h2 hm).mono hx (by simp [hh]), fun hm => (h3 hm).mono hx (by simp [hh])⟩
  inj := hg.inj
  imm := fun b hb => by simpa [hh] using hg.imm b hb
  sep := hg.sep
  own := fun id p hp => by simpa [hh] using hg.own id p hp
  base := by simpa [hh] using hg.base
  glob := fun g cs hgc => (hg.glob g cs hgc).mono hx
def Cx.new (c : Cx) (n : Nat) (cells : Array Value) (ty : TypeId) (sz : Nat) : Cx :=
  { c with ρ := upd c.ρ n (some ⟨c.w.heap.size, 0, cells.size, sz, false⟩), w := c.w.alloc (.cells cells ty) }
theorem Cx.new_ext {E : Env} {c : Cx} {h : Heap} (hg : Good E c h) {n : Nat} (hn : c.ρ n = none) (cells : Array Value) (ty : TypeId) (sz : Nat) : Ext c (c.new n cells ty sz) where
  B := rfl
  rho := fun id p hp => by
    have : id ≠ n := fun e => by rw [e, hn] at hp; cases hp
    simp only [Cx.new, upd_ne _ _ this, hp]
  imm := fun b hb => hb
  keep := fun b hb => Below.heap_alloc _ _ _ (hg.imm b hb)
  below := (Below.refl _ _).alloc hg.base _
theorem Good.new {E : Env} {c : Cx} {h : Heap} (hg : Good E c h) {n : Nat} (hn : c.ρ n = none) (cells : Array Value) (ty : TypeId) (sz : Nat) (es : List (List V))
    (hlen : es.length * sz ≤ cells.size) (hsz : ∀ e ∈ es, e.length = sz) (hv : ∀ i j x, get2 es i j = some x → ∃ v, cells[i * sz + j]? = some v ∧ VR (c.new n cells ty sz) x v ∧ v.oneCell' = true) :
    Good E (c.new n cells ty sz) (upd h n (some ⟨es, sz, ty⟩)) := by
  have hx := Cx.new_ext hg hn cells ty sz
  have hnew : (c.new n cells ty sz).w.heap[c.w.heap.size]? = some (.cells cells ty (0, 0)) := heap_alloc_new _ _
  refine ⟨fun id b hb => ?_, fun id id' b b' p p' hb hb' hp hp' he => ?_, fun b hb => ?_, fun id b p hb hp => ?_, fun id p hp => ?_, ?_, fun g cs hgc => (hg.glob g cs hgc).mono hx⟩
  · by_cases hi : id = n
    · subst hi
      simp only [upd_same, Option.some.injEq] at hb
      subst hb
      exact ⟨⟨c.w.heap.size, 0, cells.size, sz, false⟩, by simp [Cx.new], fun _ => ⟨cells, (0, 0), rfl, hnew, .inl rfl, by simp, hlen, hsz, fun i j x hx' => by simpa using hv i j x hx'⟩, fun h => by simp at h⟩
    · rw [upd_ne _ _ hi] at hb
      obtain ⟨p, h1, h2, h3⟩ := hg.blk id b hb
      have hk : (c.new n cells ty sz).w.heap[p.b]? = c.w.heap[p.b]? := Below.heap_alloc _ _ _ (hg.own id p h1).2
      exact ⟨p, hx.rho _ _ h1, fun hm => (h2 hm).mono hx hk, fun hm => (h3 hm).mono hx hk⟩
  · by_cases hi : id = n <;> by_cases hi' : id' = n
    · rw [hi, hi']
    · subst hi
      simp only [Cx.new, upd_same, Option.some.injEq] at hp
      simp only [Cx.new, upd_ne _ _ hi'] at hp'
      have := (hg.own id' p' hp').2
      rw [← he, ← hp] at this; simp at this
    · subst hi'
      simp only [Cx.new, upd_same, Option.some.injEq] at hp'
      simp only [Cx.new, upd_ne _ _ hi] at hp
      have := (hg.own id p hp).2
      rw [he, ← hp'] at this; simp at this
    · rw [upd_ne _ _ hi] at hb
      rw [upd_ne _ _ hi'] at hb'
      simp only [Cx.new, upd_ne _ _ hi] at hp
      simp only [Cx.new, upd_ne _ _ hi'] at hp'
      exact hg.inj id id' b b' p p' hb hb' hp hp' he
  · have := hg.imm b hb
    simp only [Cx.new, World.size_alloc]; omega
  · by_cases hi : id = n
    · subst hi
      simp only [Cx.new, upd_same, Option.some.injEq] at hp
      intro hI
      have := hg.imm _ hI
      rw [← hp] at this; simp at this
    · rw [upd_ne _ _ hi] at hb
      simp only [Cx.new, upd_ne _ _ hi] at hp
      exact hg.sep id b p hb hp
  · have hb := hg.base
    by_cases hi : id = n
    · subst hi
      simp only [Cx.new, upd_same, Option.some.injEq] at hp
      subst hp
      simp only [Cx.new, World.size_alloc]
      omega
    · simp only [Cx.new, upd_ne _ _ hi] at hp
      have := hg.own id p hp
      simp only [Cx.new, World.size_alloc]; omega
  · have hb := hg.base
    simp only [Cx.new, World.size_alloc]; omega
theorem new_dom (c : Cx) (n : Nat) (cells : Array Value) (ty : TypeId) (sz : Nat) (id : Nat) (h : (c.new n cells ty sz).ρ id ≠ none) : c.ρ id ≠ none ∨ (n ≤ id ∧ id < n + 1) := by
  by_cases hi : id = n
  · exact .inr (by omega)
  · simp only [Cx.new, upd_ne _ _ hi] at h; exact .inl h
def setArr (c : Array Value) : Nat → List Value → Array Value
  | _, [] => c
  | o, v :: r => setArr (c.setIfInBounds o v) (o + 1) r
theorem H3 (vs : List Value) : ∀ (c : Array Value) (o : Nat), (setArr c o vs).size = c.size := by
  induction vs with
  | nil => intro c o; rfl
  | cons v r ih => intro c o; simp [setArr, ih]
theorem D5 (vs : List Value) : ∀ (c : Array Value) (o k : Nat), (k < o ∨ o + vs.length ≤ k) → (setArr c o vs)[k]? = c[k]? := by
  induction vs with
  | nil => intro c o k _; rfl
  | cons v r ih =>
    intro c o k h
    simp only [List.length_cons] at h
    rw [setArr, ih _ _ _ (by omega), Array.getElem?_setIfInBounds_ne (by omega)]
theorem E9 (vs : List Value) : ∀ (c : Array Value) (o j : Nat) (v : Value), o + vs.length ≤ c.size → vs[j]? = some v → (setArr c o vs)[o + j]? = some v := by
  induction vs with
  | nil => intro c o j v _ h; simp at h
  | cons u r ih =>
    intro c o j v hs h
    simp only [List.length_cons] at hs
    cases j with
    | zero =>
      simp only [List.getElem?_cons_zero, Option.some.injEq] at h
      subst h
      rw [setArr, D5 _ _ _ _ (by omega)]
      have : o < c.size := by omega
      simp [this]
    | succ j =>
      rw [setArr, show o + (j + 1) = o + 1 + j from by omega]
      exact ih _ _ _ _ (by simp; omega) (by simpa using h)
theorem I9 (b : Nat) (ty : TypeId) (fz : Nat × Nat) (vs : List Value) : ∀ (o : Nat) (w : World) (c : Array Value), w.heap[b]? = some (.cells c ty fz) →
    (w.setCells b o vs).heap[b]? = some (.cells (setArr c o vs) ty fz) := by
  induction vs with
  | nil => intro o w c h; exact h
  | cons v r ih =>
    intro o w c h
    rw [World.setCells, setArr]
    exact ih _ _ _ (by simp [World.setCell, Array.getElem?_modify, h])
theorem D4 (b k : Nat) (hk : k ≠ b) (vs : List Value) : ∀ (o : Nat) (w : World), (w.setCells b o vs).heap[k]? = w.heap[k]? := by
  induction vs with
  | nil => intro o w; rfl
  | cons v r ih => intro o w; rw [World.setCells, ih]; exact Below.heap_setCell _ _ _ _ hk
theorem C9 (b : Nat) (vs : List Value) : ∀ (o : Nat) (w : World), (w.setCells b o vs).heap.size = w.heap.size := by
  induction vs with
  | nil => intro o w; rfl
  | cons v r ih => intro o w; rw [World.setCells, ih]; simp
theorem H8 (b B : Nat) (hb : B ≤ b) (vs : List Value) : ∀ (o : Nat) (w a : World), Below B a w → Below B a (w.setCells b o vs) := by
  induction vs with
  | nil => intro o w a h; exact h
  | cons v r ih => intro o w a h; rw [World.setCells]; exact ih _ _ _ (h.setCell hb v)
def Cx.set (c : Cx) (b o : Nat) (vs : List Value) : Cx := { c with w := c.w.setCells b o vs }
theorem Cx.set_ext {E : Env} {c : Cx} {h : Heap} (hg : Good E c h) {id : Nat} {b : Blk} {p : Place} (hb : h id = some b) (hp : c.ρ id = some p) (o : Nat) (vs : List Value) : Ext c (c.set p.b o vs) where
  B := rfl
  rho := fun _ _ h => h
  imm := fun _ h => h
  keep := fun k hk => D4 _ _ (fun (e : k = p.b) => hg.sep id b p hb hp (by rw [← e]; exact hk)) _ _ _
  below := H8 _ _ (hg.own id p hp).1 _ _ _ _ (Below.refl _ _)
def splice (l : List V) (j : Nat) (xs : List V) : List V := l.take j ++ xs ++ l.drop (j + xs.length)
theorem N9 (l : List V) (j : Nat) (xs : List V) (h : j + xs.length ≤ l.length) : (splice l j xs).length = l.length := by
  simp [splice]; omega
theorem AC (l : List V) (j : Nat) (xs : List V) (h : j + xs.length ≤ l.length) (k : Nat) :
    (splice l j xs)[k]? = if j ≤ k ∧ k < j + xs.length then xs[k - j]? else l[k]? := by
  unfold splice
  have hj : (l.take j).length = j := by simp; omega
  split
  · rename_i hk
    rw [List.append_assoc, List.getElem?_append_right (by omega), List.getElem?_append_left (by omega), hj]
  · rename_i hk
    by_cases h1 : k < j
    · rw [List.append_assoc, List.getElem?_append_left (by omega), List.getElem?_take_of_lt h1]
    · have h2 : j + xs.length ≤ k := by omega
      rw [List.getElem?_append_right (by simp; omega), List.getElem?_drop]
      congr 1
      simp; omega
theorem Good.store {E : Env} {c : Cx} {h : Heap} (hg : Good E c h) {id : Nat} {b : Blk} {p : Place} (hb : h id = some b) (hp : c.ρ id = some p) (hpm : p.m = false) (i j : Nat) (cs xs : List V) (vs : List Value)
    (hi : b.es[i]? = some cs) (hj : j + xs.length ≤ cs.length) (hl : vs.length = xs.length) (hv : ∀ (k : Nat) (x : V) (v : Value), xs[k]? = some x → vs[k]? = some v → VR c x v) (h1c : ∀ v ∈ vs, v.oneCell' = true) :
    Good E (c.set p.b (p.o + i * b.sz + j) vs) (upd h id (some { b with es := b.es.set i (splice cs j xs) })) := by
  have hx := Cx.set_ext hg hb hp (p.o + i * b.sz + j) vs
  obtain ⟨cells, fz, h2, h3, h4, h5, h6, h7, h8⟩ := hg.cells hb hp hpm
  have hmem : cs ∈ b.es := List.mem_of_getElem? hi
  have hcl : cs.length = b.sz := h7 cs hmem
  have hile : i < b.es.length := (List.getElem?_eq_some_iff.1 hi).1
  have hrow : i * b.sz + b.sz ≤ p.cap := by
    have : (i + 1) * b.sz ≤ b.es.length * b.sz := Nat.mul_le_mul_right _ hile
    rw [Nat.succ_mul] at this; omega
  refine ⟨fun id' b' hb' => ?_, fun id1 id2 b1 b2 p1 p2 hb1 hb2 hp1 hp2 he => ?_, fun k hk => ?_, fun id' b' p' hb' hp' => ?_, fun id' p' hp' => ?_, ?_, fun g cs hgc => (hg.glob g cs hgc).mono hx⟩
  · by_cases hid : id' = id
    · subst hid
      simp only [upd_same, Option.some.injEq] at hb'
      subst hb'
      refine ⟨p, hp, fun _ => ⟨setArr cells (p.o + i * b.sz + j) vs, fz, h2, I9 _ _ _ _ _ _ _ h3, h4, by rw [H3]; exact h5, by simpa using h6, ?_, ?_⟩, fun hm => by rw [hpm] at hm; cases hm⟩
      · intro e he
        rcases List.mem_or_eq_of_mem_set he with h9 | h9
        · exact h7 e h9
        · rw [h9, N9 _ _ _ hj]; exact hcl
      · intro i' j' x hx'
        show ∃ v, (setArr cells (p.o + i * b.sz + j) vs)[p.o + i' * b.sz + j']? = some v ∧ _
        by_cases hii : i' = i
        · subst hii
          simp only [get2, List.getElem?_set_self hile, Option.bind_some] at hx'
          rw [AC _ _ _ hj] at hx'
          split at hx'
          · rename_i hr
            have hk : j' - j < vs.length := by omega
            refine ⟨vs[j' - j], ?_, (hv _ _ _ hx' (by simp [hk])).mono hx, h1c _ (List.getElem_mem hk)⟩
            have := E9 vs cells (p.o + i' * b.sz + j) (j' - j) vs[j' - j] (by omega) (by simp [hk])
            rw [← this]; congr 1; omega
          · rename_i hr
            obtain ⟨v, h9, h10, h11⟩ := h8 i' j' x (by simp [get2, hi, hx'])
            refine ⟨v, ?_, h10.mono hx, h11⟩
            rw [D5 _ _ _ _ (by omega)]; exact h9
        · simp only [get2, List.getElem?_set_ne (Ne.symm hii)] at hx'
          obtain ⟨v, h9, h10, h11⟩ := h8 i' j' x hx'
          refine ⟨v, ?_, h10.mono hx, h11⟩
          have hj' : j' < b.sz := by
            cases hes : b.es[i']? with
            | none => simp [hes] at hx'
            | some e =>
              simp only [hes, Option.bind_some] at hx'
              have := (List.getElem?_eq_some_iff.1 hx').1
              rw [h7 e (List.mem_of_getElem? hes)] at this; exact this
          rw [D5, h9]
          rcases Nat.lt_or_gt_of_ne hii with hlt | hgt
          · have : (i' + 1) * b.sz ≤ i * b.sz := Nat.mul_le_mul_right _ hlt
            rw [Nat.succ_mul] at this; omega
          · have : (i + 1) * b.sz ≤ i' * b.sz := Nat.mul_le_mul_right _ hgt
            rw [Nat.succ_mul] at this; omega
    · rw [upd_ne _ _ hid] at hb'
      obtain ⟨q, g1, g2, g3⟩ := hg.blk id' b' hb'
      have this : q.b ≠ p.b := fun e => hid (hg.inj id' id b' b q p hb' hb g1 hp e)
      have hk : (c.set p.b (p.o + i * b.sz + j) vs).w.heap[q.b]? = c.w.heap[q.b]? := D4 _ _ this _ _ _
      exact ⟨q, g1, fun hm => (g2 hm).mono hx hk, fun hm => (g3 hm).mono hx hk⟩
  · have g1 : ∃ b, h id1 = some b := by
      by_cases h9 : id1 = id
      · exact ⟨b, h9 ▸ hb⟩
      · rw [upd_ne _ _ h9] at hb1; exact ⟨_, hb1⟩
    have g2 : ∃ b, h id2 = some b := by
      by_cases h9 : id2 = id
      · exact ⟨b, h9 ▸ hb⟩
      · rw [upd_ne _ _ h9] at hb2; exact ⟨_, hb2⟩
    obtain ⟨x1, g1⟩ := g1
    obtain ⟨x2, g2⟩ := g2
    exact hg.inj id1 id2 x1 x2 p1 p2 g1 g2 hp1 hp2 he
  · simp only [Cx.set, C9]; exact hg.imm k hk
  · by_cases h9 : id' = id
    · subst h9; exact hg.sep id' b p' hb hp'
    · rw [upd_ne _ _ h9] at hb'; exact hg.sep id' b' p' hb' hp'
  · simp only [Cx.set, C9]; exact hg.own id' p' hp'
  · simp only [Cx.set, C9]; exact hg.base
def V.cells : V → List V
  | .agg cs => cs
  | v => [v]
def V.known : V → Bool
  | .unk | .tup _ => false
  | _ => true
theorem VR.cells {c : Cx} {x : V} {v : Value} (h : VR c x v) (hk : x.known = true) : v.cells.size = x.cells.length ∧ ∀ (i : Nat) (y : V) (u : Value), x.cells[i]? = some y → v.cells[i]? = some u → VR c y u := by
  have one : ∀ (x : V) (v : Value), VR c x v → x.cells = [x] → v.cells = #[v] → v.cells.size = x.cells.length ∧ ∀ (i : Nat) (y : V) (u : Value), x.cells[i]? = some y → v.cells[i]? = some u → VR c y u := by
    intro x v h h1 h2
    rw [h1, h2]
    refine ⟨rfl, fun i y u hy hu => ?_⟩
    cases i with
    | zero =>
      simp at hy hu
      subst hy; subst hu
      exact h
    | succ i => simp at hy
  cases h with
  | agg cs vs hl hr => exact ⟨hl.symm, hr⟩
  | tup cs vs hl hr => simp [V.known] at hk
  | unk v => simp [V.known] at hk
  | bool b => exact one _ _ (.bool b) rfl rfl
  | int k n => exact one _ _ (.int k n) rfl rfl
  | str s => exact one _ _ (.str s) rfl rfl
  | nilp => exact one _ _ .nilp rfl rfl
  | nilf => exact one _ _ .nilf rfl rfl
  | nsl => exact one _ _ .nsl rfl rfl
  | sl fr nn es v h =>
    refine one _ _ (.sl fr nn es v h) rfl ?_
    cases h; rfl
  | view id off len p o cap hp ho hl hm => exact one _ _ (.view id off len p o cap hp ho hl hm) rfl rfl
  | vcap id off len cp p o hp ho hl hm => exact one _ _ (.vcap id off len cp p o hp ho hl hm) rfl rfl
  | ptr id i j p hp hm => exact one _ _ (.ptr id i j p hp hm) rfl rfl
  | map id p hp hm => exact one _ _ (.map id p hp hm) rfl rfl
  | iptr fr cs b o rd hI hrd hsub => exact one _ _ (.iptr fr cs b o rd hI hrd hsub) rfl rfl
  | clo f caps vs hl hh => exact one _ _ (.clo f caps vs hl hh) rfl rfl
theorem VR.oneCell {c : Cx} {x : V} {v : Value} (h : VR c x v) (hx : x.cell = true) : v.oneCell' = true := by
  cases h with
  | sl fr nn es v h => cases h; rfl
  | agg | tup | unk => simp [V.cell] at hx
  | _ => rfl
theorem Good.range {E : Env} {c : Cx} {h : Heap} (hg : Good E c h) {id : Nat} {b : Blk} {p : Place} (hb : h id = some b) (hp : c.ρ id = some p) (hpm : p.m = false) {i : Nat} {cs : List V} (hi : b.es[i]? = some cs) (j n : Nat)
    (hn : j + n ≤ cs.length) : ∃ vs : List Value, vs.length = n ∧ c.w.rangeAt p.b (p.o + i * p.sz + j) vs ∧ (∀ (k : Nat) (x : V) (v : Value), ((cs.drop j).take n)[k]? = some x → vs[k]? = some v → VR c x v) ∧ ∀ v ∈ vs, v.oneCell' = true := by
  obtain ⟨cells, fz, h2, h3, h4, h5, h6, h7, h8⟩ := hg.cells hb hp hpm
  have hx : ∀ k, k < n → ∃ x v, cs[j + k]? = some x ∧ cells[p.o + i * p.sz + j + k]? = some v ∧ VR c x v ∧ v.oneCell' = true := by
    intro k hk
    have hlt : j + k < cs.length := by omega
    obtain ⟨v, h9, h10, h11⟩ := h8 i (j + k) cs[j + k] (by simp [get2, hi, hlt])
    exact ⟨cs[j + k], v, by simp [hlt], by rw [← h9, h2, Nat.add_assoc], h10, h11⟩
  refine ⟨(List.range n).map fun k => (cells[p.o + i * p.sz + j + k]?).getD undef, by simp, fun k v hv => ?_, fun k x v hxk hv => ?_, fun v hv => ?_⟩
  · have hk : k < n := by
      have := (List.getElem?_eq_some_iff.1 hv).1
      simpa using this
    obtain ⟨x, u, g1, g2, g3, g4⟩ := hx k hk
    simp only [List.getElem?_map, List.getElem?_range hk, Option.map_some, Option.some.injEq] at hv
    simp only [World.cell?, h3]
    simpa [g2] using hv
  · have hk : k < n := by
      have := (List.getElem?_eq_some_iff.1 hv).1
      simpa using this
    obtain ⟨y, u, g1, g2, g3, g4⟩ := hx k hk
    simp only [List.getElem?_map, List.getElem?_range hk, Option.map_some, Option.some.injEq, g2, Option.getD_some] at hv
    rw [List.getElem?_take_of_lt hk, List.getElem?_drop, g1] at hxk
    simp only [Option.some.injEq] at hxk
    subst hv; subst hxk
    exact g3
  · obtain ⟨k, hk, rfl⟩ := List.mem_map.1 hv
    obtain ⟨y, u, g1, g2, g3, g4⟩ := hx k (List.mem_range.1 hk)
    rw [g2]; exact g4
theorem Good.there {E : Env} {c : Cx} {h : Heap} (hg : Good E c h) {id : Nat} {b : Blk} {p : Place} (hb : h id = some b) (hp : c.ρ id = some p) (hpm : p.m = false) {i : Nat} {cs : List V} (hi : b.es[i]? = some cs) (j n : Nat)
    (hn : j + n ≤ cs.length) : c.w.there p.b (p.o + i * p.sz + j) n := by
  obtain ⟨cells, fz, h2, h3, h4, h5, h6, h7, h8⟩ := hg.cells hb hp hpm
  have hile : i < b.es.length := (List.getElem?_eq_some_iff.1 hi).1
  have hcl := h7 cs (List.mem_of_getElem? hi)
  have hrow : i * p.sz + p.sz ≤ p.cap := by
    have : (i + 1) * b.sz ≤ b.es.length * b.sz := Nat.mul_le_mul_right _ hile
    rw [Nat.succ_mul] at this; rw [h2]; omega
  intro k hk
  refine ⟨?_, ?_⟩
  · have : p.o + i * p.sz + j + k < cells.size := by omega
    simp [World.cell?, h3, this]
  · have : ¬ (fz.1 ≤ p.o + i * p.sz + j + k ∧ p.o + i * p.sz + j + k < fz.2) := by omega
    cases hz : (decide (fz.1 ≤ p.o + i * p.sz + j + k) && decide (p.o + i * p.sz + j + k < fz.2)) with
    | false => obtain ⟨z1, z2⟩ := fz; simpa [World.frozen?, h3] using hz
    | true =>
      simp only [Bool.and_eq_true, decide_eq_true_eq] at hz
      exact absurd hz this
end Go.V
namespace Go.V
open Go.RowKit (Below)
set_option linter.unusedSimpArgs false
set_option linter.unusedVariables false
section inv
variable {c : Cx} {v : Value}
theorem VR.bool_inv {b : Bool} (h : VR c (.bool b) v) : v = .bool b := by cases h; rfl
theorem VR.int_inv {k : IntKind} {n : Int} (h : VR c (.int k n) v) : v = .int k n := by cases h; rfl
theorem VR.str_inv {s : ByteArray} (h : VR c (.str s) v) : v = .string s := by cases h; rfl
theorem VR.nilp_inv (h : VR c .nilp v) : v = .pointer none := by cases h; rfl
theorem VR.nilf_inv (h : VR c .nilf v) : v = .nilFunc := by cases h; rfl
theorem VR.nsl_inv (h : VR c .nsl v) : v = .slice none 0 0 := by cases h; rfl
theorem VR.ptr_inv {id i j : Nat} (h : VR c (.ptr id i j) v) : ∃ p, (c.ρ id = some p ∧ p.m = false) ∧ v = .pointer (some ⟨p.b, p.o + i * p.sz + j, none⟩) := by
  cases h with | ptr _ _ _ p hp hm => exact ⟨p, ⟨hp, hm⟩, rfl⟩
theorem VR.agg_inv {cs : List V} (h : VR c (.agg cs) v) : ∃ vs, v = .agg vs ∧ cs.length = vs.size ∧ ∀ (i : Nat) (x : V) (u : Value), cs[i]? = some x → vs[i]? = some u → VR c x u := by
  cases h with | agg _ vs hl h => exact ⟨vs, rfl, hl, h⟩
theorem VR.tup_inv {cs : List V} (h : VR c (.tup cs) v) : ∃ vs, v = .tuple vs ∧ cs.length = vs.size ∧ ∀ (i : Nat) (x : V) (u : Value), cs[i]? = some x → vs[i]? = some u → VR c x u := by
  cases h with | tup _ vs hl h => exact ⟨vs, rfl, hl, h⟩
end inv
theorem OpOK.value {E : Env} {o : Oper} {t : Nat → V} {h : Heap} {n : Nat} {rd : List Nat} {v : V}
    (H : ∀ (c : Cx) (a : Act) (h2 : Heap), (∀ x ∈ o.op.operands, VR c (E.eval t x) (a.eval x)) → Good E c h2 → (∀ id ∈ rd, h2 id = h id) →
      ∃ v', (execOp a.eval o).run E.P c.w = .ok (.value v') c.w ∧ VR c v v') : OpOK E o t h n rd false v [] n := by
  intro c a h2 K Q hd hx hg hrd _ _ hK
  obtain ⟨v', hrun, hv⟩ := H c a h2 hx hg hrd
  unfold Oper.wp
  rw [hrun, Oper.upon_value]
  exact hK c v' (Ext.refl c) hg (fun id h => .inl h) hv
section ops
variable {E : Env} {o : Oper} {t : Nat → V} {h : Heap} {n : Nat}
theorem op_move {x : Operand} (ho : o.op = .move x) : OpOK E o t h n [] false (E.eval t x) [] n :=
  OpOK.value fun c a h2 hx hg _ => ⟨a.eval x, by simp [execOp, ho], hx x (by simp [ho, Op.operands])⟩
theorem op_assign {x : Operand} (ho : o.op = .assign x) : OpOK E o t h n [] false (E.eval t x) [] n :=
  OpOK.value fun c a h2 hx hg _ => ⟨a.eval x, by simp [execOp, ho], hx x (by simp [ho, Op.operands])⟩
def pickV : Bool → V → V → V
  | k, .bool x, .bool y => .bool (cond k x y)
  | true, a, _ => a
  | false, _, b => b
theorem pick_ok {c : Cx} {A B : V} {va vb : Value} {k : Bool} (ha : VR c A va) (hb : VR c B vb) : VR c (pickV k A B) (if k then va else vb) := by
  cases k with
  | true =>
    rw [if_pos rfl]
    cases ha with
    | bool x => cases hb <;> exact .bool _
    | _ => simp only [pickV]; constructor <;> assumption
  | false =>
    rw [if_neg (by simp)]
    cases hb with
    | bool x => cases ha <;> exact .bool _
    | _ => cases ha <;> simp only [pickV] <;> (constructor <;> assumption)
theorem op_pick {x y z : Operand} {k : Bool} (ho : o.op = .pick x y z) (hc : E.eval t x = .bool k) : OpOK E o t h n [] false (pickV k (E.eval t y) (E.eval t z)) [] n :=
  OpOK.value fun c a h2 hx hg _ => by
    have h1 := hx x (by simp [ho, Op.operands])
    have h2 := hx y (by simp [ho, Op.operands])
    have h3 := hx z (by simp [ho, Op.operands])
    rw [hc] at h1
    refine ⟨if k then a.eval y else a.eval z, by simp [execOp, ho, h1.bool_inv, asBool], ?_⟩
    exact pick_ok h2 h3
def V.nonnil : V → Bool
  | .ptr .. | .iptr .. | .clo .. => true
  | _ => false
theorem L3 {x : Operand} (ho : o.op = .nilCheck x) (hn : (E.eval t x).nonnil = true) : OpOK E o t h n [] false (E.eval t x) [] n :=
  OpOK.value fun c a h2 hx hg _ => by
    have h1 := hx x (by simp [ho, Op.operands])
    refine ⟨a.eval x, ?_, h1⟩
    revert h1 hn
    generalize E.eval t x = u
    generalize hw : a.eval x = w
    intro hn h1
    cases h1 with
    | ptr => simp [execOp, ho, hw]
    | iptr => simp [execOp, ho, hw]
    | clo => simp [execOp, ho, hw]
    | _ => simp [V.nonnil] at hn
theorem op_extract {x : Operand} {i : Nat} {vs : List V} {v : V} (ho : o.op = .extract x i) (hx : E.eval t x = .tup vs) (hi : vs[i]? = some v) : OpOK E o t h n [] false v [] n :=
  OpOK.value fun c a h2 hx' hg _ => by
    have h1 := hx' x (by simp [ho, Op.operands])
    rw [hx] at h1
    obtain ⟨us, h2, h3, h4⟩ := h1.tup_inv
    have hlt : i < us.size := by rw [← h3]; exact (List.getElem?_eq_some_iff.1 hi).1
    exact ⟨us[i], by simp [execOp, ho, h2, Instr.extract, hlt], h4 i v us[i] hi (by simp [hlt])⟩
theorem op_makeFunc {f : FuncId} {caps : Array Operand} (ho : o.op = .makeFunc (.func f) #[] caps) : OpOK E o t h n [] false (.clo f (caps.toList.map (E.eval t))) [] n :=
  OpOK.value fun c a h2 hx hg _ => by
    refine ⟨.func (.func f) #[] (caps.map a.eval), by simp [execOp, ho, Instr.makeFunc], .clo _ _ _ (by simp) fun i x v h1 h2 => ?_⟩
    simp only [List.getElem?_map, Array.getElem?_toList, Array.getElem?_map] at h1 h2
    cases hc : caps[i]? with
    | none => simp [hc] at h1
    | some y =>
      simp only [hc, Option.map_some, Option.some.injEq] at h1 h2
      subst h1; subst h2
      refine hx y ?_
      simp only [ho, Op.operands]
      simp
      exact Array.mem_of_getElem? hc
theorem op_not {ty : TypeId} {x : Operand} {b : Bool} (ho : o.op = .unOp .not ty x) (hx : E.eval t x = .bool b) : OpOK E o t h n [] false (.bool (!b)) [] n :=
  OpOK.value fun c a h2 hx' hg _ => by
    have h1 := hx' x (by simp [ho, Op.operands])
    rw [hx] at h1
    exact ⟨.bool (!b), by simp [execOp, ho, h1.bool_inv, Op.unary], .bool _⟩
theorem op_neg {ty : TypeId} {x : Operand} {k : IntKind} {m : Int} (ho : o.op = .unOp .neg ty x) (hx : E.eval t x = .int k m) : OpOK E o t h n [] false (.int k (k.wrap (0 - m))) [] n :=
  OpOK.value fun c a h2 hx' hg _ => by
    have h1 := hx' x (by simp [ho, Op.operands])
    rw [hx] at h1
    exact ⟨.int k (k.wrap (0 - m)), by simp [execOp, ho, h1.int_inv, Op.unary, Op.intArith], .int _ _⟩
theorem op_compl {ty : TypeId} {x : Operand} {k : IntKind} {m : Int} (ho : o.op = .unOp .xor ty x) (hx : E.eval t x = .int k m) :
    OpOK E o t h n [] false (.int k (bits .xor k (if k.signed then -1 else k.max) m)) [] n :=
  OpOK.value fun c a h2 hx' hg _ => by
    have h1 := hx' x (by simp [ho, Op.operands])
    rw [hx] at h1
    exact ⟨_, by simp only [execOp, ho, h1.int_inv, Op.unary, intBits_xor]; rfl, .int _ _⟩
def intOp (op : BinOp) (k : IntKind) (a b : Int) : Option V :=
  match op with
  | .add => some (.int k (k.wrap (a + b)))
  | .sub => some (.int k (k.wrap (a - b)))
  | .mul => some (.int k (k.wrap (a * b)))
  | .and => some (.int k (bits .and k a b))
  | .or => some (.int k (bits .or k a b))
  | .xor => some (.int k (bits .xor k a b))
  | .andNot => some (.int k (bits .andNot k a b))
  | .eql => some (.bool (a == b))
  | .neq => some (.bool (a != b))
  | .lss => some (.bool (decide (a < b)))
  | .leq => some (.bool (decide (a ≤ b)))
  | .gtr => some (.bool (decide (a > b)))
  | .geq => some (.bool (decide (a ≥ b)))
  | _ => none
theorem G8 {op : BinOp} {ty ty' : TypeId} {x y : Operand} {k : IntKind} {a b : Int} {v : V} (ho : o.op = .binOp op ty x y ty') (hx : E.eval t x = .int k a) (hy : E.eval t y = .int k b)
    (hv : intOp op k a b = some v) : OpOK E o t h n [] false v [] n :=
  OpOK.value fun c ac h2 hx' hg _ => by
    have h1 := hx' x (by simp [ho, Op.operands])
    have h2 := hx' y (by simp [ho, Op.operands])
    rw [hx] at h1; rw [hy] at h2
    have e1 := h1.int_inv
    have e2 := h2.int_inv
    cases op <;> simp only [intOp, Option.some.injEq, reduceCtorEq] at hv <;> subst hv
    all_goals first
      | exact ⟨_, by simp only [execOp, ho, e1, e2, eqGuard_at_int, binOp_add, binOp_sub, binOp_mul, binOp_and, binOp_or, binOp_xor, binOp_andNot, binOp_eql, binOp_neq, binOp_lss, binOp_leq, binOp_gtr, binOp_geq,
          Op.intArith, intBits_and, intBits_or, intBits_xor, intBits_andNot]; rfl, .int _ _⟩
      | exact ⟨_, by simp only [execOp, ho, e1, e2, eqGuard_at_int, binOp_add, binOp_sub, binOp_mul, binOp_and, binOp_or, binOp_xor, binOp_andNot, binOp_eql, binOp_neq, binOp_lss, binOp_leq, binOp_gtr, binOp_geq,
          Op.intArith, intBits_and, intBits_or, intBits_xor, intBits_andNot]; rfl, .bool _⟩
theorem op_quo {ty ty' : TypeId} {x y : Operand} {k : IntKind} {a b : Int} (ho : o.op = .binOp .quo ty x y ty') (hx : E.eval t x = .int k a) (hy : E.eval t y = .int k b)
    (hb : b ≠ 0) : OpOK E o t h n [] false (.int k (k.wrap (a.tdiv b))) [] n :=
  OpOK.value fun c ac h2 hx' hg _ => by
    have h1 := hx' x (by simp [ho, Op.operands])
    have h2 := hx' y (by simp [ho, Op.operands])
    rw [hx] at h1; rw [hy] at h2
    exact ⟨.int k (k.wrap (a.tdiv b)), by simp [execOp, ho, h1.int_inv, h2.int_inv, eqGuard_at_int, binOp_quo, Op.intDiv, hb], .int _ _⟩
theorem op_rem {ty ty' : TypeId} {x y : Operand} {k : IntKind} {a b : Int} (ho : o.op = .binOp .rem ty x y ty') (hx : E.eval t x = .int k a) (hy : E.eval t y = .int k b)
    (hb : b ≠ 0) : OpOK E o t h n [] false (.int k (a.tmod b)) [] n :=
  OpOK.value fun c ac h2 hx' hg _ => by
    have h1 := hx' x (by simp [ho, Op.operands])
    have h2 := hx' y (by simp [ho, Op.operands])
    rw [hx] at h1; rw [hy] at h2
    exact ⟨.int k (a.tmod b), by simp [execOp, ho, h1.int_inv, h2.int_inv, eqGuard_at_int, binOp_rem, Op.intDiv, hb], .int _ _⟩
theorem op_shl {ty ty' : TypeId} {x y : Operand} {k yk : IntKind} {a b : Int} (ho : o.op = .binOp .shl ty x y ty') (hx : E.eval t x = .int k a) (hy : E.eval t y = .int yk b)
    (hb : 0 ≤ b) : OpOK E o t h n [] false (.int k (k.wrap (a * 2 ^ (min b.toNat k.bits)))) [] n :=
  OpOK.value fun c ac h2 hx' hg _ => by
    have h1 := hx' x (by simp [ho, Op.operands])
    have h2 := hx' y (by simp [ho, Op.operands])
    rw [hx] at h1; rw [hy] at h2
    refine ⟨.int k (k.wrap (a * 2 ^ (min b.toNat k.bits))), ?_, .int _ _⟩
    have hb' : ¬ b < 0 := by omega
    simp [execOp, ho, h1.int_inv, h2.int_inv, eqGuard_at_int, binOp_shl, Op.shift, hb']
theorem op_shr {ty ty' : TypeId} {x y : Operand} {k yk : IntKind} {a b : Int} (ho : o.op = .binOp .shr ty x y ty') (hx : E.eval t x = .int k a) (hy : E.eval t y = .int yk b)
    (hb : 0 ≤ b) : OpOK E o t h n [] false (.int k (a.fdiv (2 ^ (min b.toNat k.bits)))) [] n :=
  OpOK.value fun c ac h2 hx' hg _ => by
    have h1 := hx' x (by simp [ho, Op.operands])
    have h2 := hx' y (by simp [ho, Op.operands])
    rw [hx] at h1; rw [hy] at h2
    refine ⟨.int k (a.fdiv (2 ^ (min b.toNat k.bits))), ?_, .int _ _⟩
    have hb' : ¬ b < 0 := by omega
    simp [execOp, ho, h1.int_inv, h2.int_inv, eqGuard_at_int, binOp_shr, Op.shift, hb']
def strOp (op : BinOp) (a b : ByteArray) : Option V :=
  match op with
  | .eql => some (.bool (a.toList == b.toList))
  | .neq => some (.bool (!(a.toList == b.toList)))
  | .lss => some (.bool (Op.bytesLess a.toList b.toList))
  | .leq => some (.bool (Op.bytesLess a.toList b.toList || a.toList == b.toList))
  | .gtr => some (.bool (!(Op.bytesLess a.toList b.toList || a.toList == b.toList)))
  | .geq => some (.bool (!Op.bytesLess a.toList b.toList))
  | _ => none
theorem U6 {op : BinOp} {ty ty' : TypeId} {x y : Operand} {a b : ByteArray} {v : V} (ho : o.op = .binOp op ty x y ty') (hx : E.eval t x = .str a) (hy : E.eval t y = .str b)
    (hv : strOp op a b = some v) : OpOK E o t h n [] false v [] n :=
  OpOK.value fun c ac h2 hx' hg _ => by
    have h1 := hx' x (by simp [ho, Op.operands])
    have h2 := hx' y (by simp [ho, Op.operands])
    rw [hx] at h1; rw [hy] at h2
    have e1 := h1.str_inv
    have e2 := h2.str_inv
    cases op <;> simp only [strOp, Option.some.injEq, reduceCtorEq] at hv <;> subst hv
    all_goals exact ⟨_, by simp only [execOp, ho, e1, e2, eqGuard_at_string, binOp, Op.stringOp]; rfl, .bool _⟩
theorem op_cat {ty ty' : TypeId} {x y : Operand} {a b : ByteArray} (ho : o.op = .binOp .add ty x y ty') (hx : E.eval t x = .str a) (hy : E.eval t y = .str b)
    (hs : a.size + b.size ≤ 9223372036854775807) : OpOK E o t h n [] false (.str (a ++ b)) [] n :=
  OpOK.value fun c ac h2 hx' hg _ => by
    have h1 := hx' x (by simp [ho, Op.operands])
    have h2 := hx' y (by simp [ho, Op.operands])
    rw [hx] at h1; rw [hy] at h2
    have hle : ¬ ((a.size + b.size : Nat) : Int) > IntKind.i64.max := by rw [IntKind.max_i64]; omega
    exact ⟨.string (a ++ b), by simp only [execOp, ho, h1.str_inv, h2.str_inv, eqGuard_at_string, binOp, Op.stringOp, if_neg hle]; rfl, .str _⟩
theorem op_beq {op : BinOp} {ty ty' : TypeId} {x y : Operand} {a b : Bool} (ho : o.op = .binOp op ty x y ty') (hop : op = .eql ∨ op = .neq) (hty : E.P.underlying ty = some .bool)
    (hx : E.eval t x = .bool a) (hy : E.eval t y = .bool b) : OpOK E o t h n [] false (.bool (if op = .eql then a == b else !(a == b))) [] n :=
  OpOK.value fun c ac h2 hx' hg _ => by
    have h1 := hx' x (by simp [ho, Op.operands])
    have h2 := hx' y (by simp [ho, Op.operands])
    rw [hx] at h1; rw [hy] at h2
    have e1 := h1.bool_inv
    have e2 := h2.bool_inv
    rcases hop with rfl | rfl
    · exact ⟨.bool (a == b), by simp only [execOp, ho, e1, e2, eqGuard_at_bool, Sem.run_bind, Sem.run_pure, Result.andThen_ok, run_eql_bool _ _ _ _ hty], .bool _⟩
    · exact ⟨.bool (!(a == b)), by simp only [execOp, ho, e1, e2, eqGuard_at_bool, Sem.run_bind, Sem.run_pure, Result.andThen_ok, run_neq_bool _ _ _ _ hty], VR.bool (c := c) (!(a == b))⟩
theorem op_conv {s d : TypeId} {x : Operand} {k k' : IntKind} {m : Int} (ho : o.op = .convert s d x) (hx : E.eval t x = .int k m) (hs : (E.P.underlying s).isSome = true) (hd : E.P.underlying d = some (.int k')) :
    OpOK E o t h n [] false (.int k' (k'.wrap m)) [] n :=
  OpOK.value fun c a h2 hx' hg _ => by
    have h1 := hx' x (by simp [ho, Op.operands])
    rw [hx] at h1
    obtain ⟨ds, hds⟩ := Option.isSome_iff_exists.mp hs
    exact ⟨.int k' (k'.wrap m), by simp [execOp, ho, h1.int_inv, convert, run_underlying hds, run_underlying hd, Conv.intToInt], .int _ _⟩
end ops
end Go.V
