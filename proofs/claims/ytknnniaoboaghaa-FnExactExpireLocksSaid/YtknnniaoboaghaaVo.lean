/- A logic over abstract states: maps, arrays, functions of which it is said only that there is a result. No conditions. -/
import Derived.Test.YtknnniaoboaghaaVl
import Derived.WideKeyArr
namespace Go.V
open Go.RowKit (Below)
set_option linter.unusedSimpArgs false
set_option linter.unusedVariables false

/-! Arrays. -/

/-- Of an array's type: how many elements, their type, the cells of one. -/
def arrP (P : Program) (ty : TypeId) : Option (Nat × TypeId × Nat) :=
  match P.underlying ty with
  | some (.array m e) => (P.info? e).map fun i => (m, e, i.size)
  | _ => none

section ops
variable {E : Env} {o : Oper} {t : Nat → V} {h : Heap} {n : Nat}

/-! Maps. -/

/-- A key that is one cell, or a struct or an array of such: what it is. -/
def scalV : V → Option Value
  | .bool b => some (.bool b)
  | .int k n => some (.int k n)
  | .str s => some (.string s)
  | _ => none
def scalL : List V → Option (List Value)
  | [] => some []
  | x :: r => match scalV x, scalL r with
    | some v, some vs => some (v :: vs)
    | _, _ => none
def V.val : V → Option Value
  | .agg cs => (scalL cs).map fun vs => .agg vs.toArray
  | x => scalV x

/-- Of a map's type: its keys' and its elements' types. -/
def mapP (P : Program) (ty : TypeId) : Option (TypeId × TypeId) :=
  match P.underlying ty with
  | some (.map k e) => some (k, e)
  | _ => none

def KeyOK (P : Program) (kt : TypeId) (k : V) : Prop := ∃ v l, k.val = some v ∧ keyOf P kt v = some l
def KeysOK (P : Program) (kt : TypeId) (es : List (List V)) : Prop := ∀ (i : Nat) (row : List V), es[i]? = some row → ∃ k x, row = [k, x] ∧ KeyOK P kt k

theorem VR.map_inv {c : Cx} {id : Nat} {v : Value} (h : VR c (.map id) v) : ∃ p, (c.ρ id = some p ∧ p.m = true) ∧ v = .map (some p.b) := by
  cases h with | map _ p hp hm => exact ⟨p, ⟨hp, hm⟩, rfl⟩

/-- The zero value of a type. -/
def zeroC (P : Program) (ty : TypeId) : Option Value := (P.info? ty).bind (·.zero)

/-- A map's block is another one. -/
def Cx.setMap (c : Cx) (p : Place) (o : Obj) : Cx := { c with w := { c.w with heap := c.w.heap.setIfInBounds p.b o } }

theorem Good.setMap {c : Cx} {h : Heap} (hg : Good E c h) {id : Nat} {b b' : Blk} {p : Place} {o : Obj} (hb : h id = some b) (hp : c.ρ id = some p) (hm : p.m = true)
    (hM : Ext c (c.setMap p o) → MapAt (c.setMap p o) p b') : Ext c (c.setMap p o) ∧ Good E (c.setMap p o) (upd h id (some b')) := by
  have hlt := (hg.own id p hp).2
  have hne : ∀ k, k ≠ p.b → (c.setMap p o).w.heap[k]? = c.w.heap[k]? := fun k hk => by
    simp [Cx.setMap, Array.getElem?_setIfInBounds_ne (Ne.symm hk)]
  have hsz : (c.setMap p o).w.heap.size = c.w.heap.size := by simp [Cx.setMap]
  have hx : Ext c (c.setMap p o) := by
    refine ⟨rfl, fun _ _ h => h, fun _ h => h, fun k hk => hne k (fun e => hg.sep id b p hb hp (e ▸ hk)), ⟨rfl, rfl, rfl, by rw [hsz]; exact Nat.le_refl _, fun k hk => hne k (fun e => by have := (hg.own id p hp).1; omega)⟩⟩
  refine ⟨hx, fun i x hi => ?_, fun i i' x x' r r' hi hi' hr hr' he => ?_, fun k hk => by rw [hsz]; exact hg.imm k hk, fun i x r hi hr => ?_, fun i r hr => by rw [hsz]; exact hg.own i r hr, by rw [hsz]; exact hg.base, fun g cs hgc => (hg.glob g cs hgc).mono hx⟩
  · by_cases h1 : i = id
    · subst h1
      simp only [upd_same, Option.some.injEq] at hi
      subst hi
      exact ⟨p, hp, (fun h' => absurd (h'.symm.trans hm) (by simp)), fun _ => hM hx⟩
    · rw [upd_ne _ _ h1] at hi
      obtain ⟨r, g1, g2, g3⟩ := hg.blk i x hi
      have hk := hne r.b (fun e => h1 (hg.inj i id x b r p hi hb g1 hp e))
      exact ⟨r, g1, fun hm => (g2 hm).mono hx hk, fun hm => (g3 hm).mono hx hk⟩
  · have key : ∀ i x, (upd h id (some b')) i = some x → ∃ y, h i = some y := by
      intro i x hi
      by_cases h1 : i = id
      · subst h1; exact ⟨_, hb⟩
      · rw [upd_ne _ _ h1] at hi; exact ⟨_, hi⟩
    obtain ⟨y, k1⟩ := key i x hi
    obtain ⟨y', k2⟩ := key i' x' hi'
    exact hg.inj i i' y y' r r' k1 k2 hr hr' he
  · by_cases h1 : i = id
    · subst h1; exact hg.sep i b r hb hr
    · rw [upd_ne _ _ h1] at hi; exact hg.sep i x r hi hr

theorem op_entryStore {ty : TypeId} {x y z : Operand} {id i : Nat} {b : Blk} {k v u : V} (ho : o.op = .entryStore ty x y z) (hx : E.eval t x = .map id) (hy : E.eval t y = .int .i64 i) (hz : E.eval t z = u) (hb : h id = some b) (hi : b.es[i]? = some [k, v]) :
    OpOK E o t h n [id] false .unk [(id, some { b with es := b.es.set i [k, u] })] n := by
  intro c a h2 K2 Q hd hx' hg hrd _ hf hK
  have g1 := hx' x (by simp [ho, Op.operands])
  have g2 := (by have := hx' y (by simp [ho, Op.operands]); rw [hy] at this; exact this.int_inv)
  have g3 := hx' z (by simp [ho, Op.operands])
  rw [hx] at g1; rw [hz] at g3
  obtain ⟨p, ⟨hp, hpm⟩, hv⟩ := g1.map_inv
  have hb2 : h2 id = some b := by rw [hrd id (by simp)]; exact hb
  obtain ⟨es, q1, q2, q3⟩ := hg.map hb2 hp hpm
  obtain ⟨e, k', v', r1, r2, r3, r4, r5⟩ := q3 i _ hi
  simp only [List.cons.injEq, and_true] at r2
  obtain ⟨rfl, rfl⟩ := r2
  have hlt : i < es.size := (Array.getElem?_eq_some_iff.1 r1).1
  have hborn : ∀ (m : Nat) (hm : m < es.size), es[m].born = m := by
    intro m hm
    obtain ⟨e', _, _, u1, _, u3, _⟩ := q3 m b.es[m] (by simp)
    have : es[m] = e' := (Array.getElem?_eq_some_iff.1 u1).2
    rw [this, u3]
  have hidx : es.findIdx? (fun e => (e.born : Int) == (i : Int)) = some i := by
    rw [Array.findIdx?_eq_some_iff_getElem]
    refine ⟨hlt, ?_, fun m hm => ?_⟩
    · simp [hborn i hlt]
    · simp [hborn m (by omega)]; omega
  have hex : (execOp a.eval o).run E.P c.w = .ok .skip (c.setMap p (.map (es.modify i fun e => { e with val := a.eval z }) b.es.length)).w := by
    simp [execOp, ho, hv, g2, Instr.entryStore, MapKept.run_getObj_map q1, asInt, asIntOf, hidx, MapKept.run_setObj_map _ q1, Result.andThen, Cx.setMap]
  unfold Oper.wp
  rw [hex, Oper.upon_skip]
  obtain ⟨s1, s2⟩ := hg.setMap (b' := { b with es := b.es.set i [k, u] }) (o := .map (es.modify i fun e => { e with val := a.eval z }) b.es.length) hb2 hp hpm (fun hxt => by
    refine ⟨_, by simp [Cx.setMap, (hg.own id p hp).2]; rfl, by simp [q2], fun m row hr => ?_⟩
    by_cases hm : m = i
    · subst hm
      simp only [List.getElem?_set_self (by omega : m < b.es.length), Option.some.injEq] at hr
      subst hr
      exact ⟨{ e with val := a.eval z }, k, u, by simp [Array.getElem?_modify, r1], rfl, r3, r4.mono hxt, g3.mono hxt⟩
    · rw [List.getElem?_set_ne (Ne.symm hm)] at hr
      obtain ⟨e', k', x', u1, u2, u3, u4, u5⟩ := q3 m row hr
      exact ⟨e', k', x', by simp [Array.getElem?_modify, Ne.symm hm, u1], u2, u3, u4.mono hxt, u5.mono hxt⟩)
  exact hK _ _ s1 s2 (fun id h => .inl h) (.unk _)
end ops

/-! Functions of which it is said that there is a result. -/
theorem Pure.of_wpX {E : Env} {f : FuncId} {fn : Func} {k : Code} {args : List A} {α : Type} {p : α → Prop} {R : α → List A} (hf : E.P.funcs[f]? = some fn) (hb : fn.body = some k) (hn : args.length ≤ fn.ntmps)
    (w : WP E fn.ntmps k (fun i => ((args.map (A.toV false))[i]?).getD .unk) (fun _ => none) 0 (fun x t h n => ∃ a, p a ∧ FinOK E fn (R a) x t h n)) (hnm : (fn.name != "runtime.NumGoroutine") = true := by rfl) : ∃ a, p a ∧ Pure E f args (R a) := by
  unfold WP at w
  obtain ⟨x, t', h', n', e, a, hp, hq⟩ := w
  exact ⟨a, hp, Pure.of_wp hf hb hn (by unfold WP; exact ⟨x, t', h', n', e, hq⟩) hnm⟩
theorem Open.of_wpX {E : Env} {f : FuncId} {fn : Func} {k : Code} {args : List V} {h : Heap} {n : Nat} {α : Type} {p : α → Prop} {v : α → V} {wr : α → List (Nat × Option Blk)} {m : α → Nat} (hf : E.P.funcs[f]? = some fn) (hb : fn.body = some k) (hn : args.length ≤ fn.ntmps)
    (w : WP E fn.ntmps k (fun i => (args[i]?).getD .unk) h n (fun x t' h' n' => ∃ a, p a ∧ OpenFin E fn (v a) h n (wr a) (m a) x t' h' n')) (hnm : (fn.name != "runtime.NumGoroutine") = true := by rfl) : ∃ a, p a ∧ Open E f args h n (v a) (wr a) (m a) := by
  unfold WP at w
  obtain ⟨x, t', h', n', e, a, hp, hq⟩ := w
  exact ⟨a, hp, Open.of_wp hf hb hn (by unfold WP; exact ⟨x, t', h', n', e, hq⟩) hnm⟩
end Go.V
