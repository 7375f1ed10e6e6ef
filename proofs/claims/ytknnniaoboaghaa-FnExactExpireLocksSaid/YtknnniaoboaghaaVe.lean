/- A logic over abstract states: the operations, one by one. No conditions. -/
import Derived.Test.YtknnniaoboaghaaVd
import Derived.Laws.StructEq
import Derived.WalkSpells
namespace Go.V
open Go.RowKit (Below)
set_option linter.unusedSimpArgs false
set_option linter.unusedVariables false

section inv
variable {c : Cx} {v : Value}
theorem VR.bool_inv {b : Bool} (h : VR c (.bool b) v) : v = .bool b := by cases h; rfl
theorem VR.int_inv {k : IntKind} {n : Int} (h : VR c (.int k n) v) : v = .int k n := by cases h; rfl
theorem VR.str_inv {s : ByteArray} (h : VR c (.str s) v) : v = .string s := by cases h; rfl
theorem VR.nilp_inv (h : VR c .nilp v) : v = .pointer none := by cases h; rfl
theorem VR.nilf_inv (h : VR c .nilf v) : v = .nilFunc := by cases h; rfl
theorem VR.nsl_inv (h : VR c .nsl v) : v = .slice none 0 0 := by cases h; rfl
theorem VR.ptr_inv {id i j : Nat} (h : VR c (.ptr id i j) v) : ∃ p, (c.ρ id = some p ∧ p.m = false) ∧ v = .pointer (some ⟨p.b, p.o + i * p.sz + j, none⟩) := by
  cases h with | ptr _ _ _ p hp hm => exact ⟨p, ⟨hp, hm⟩, rfl⟩
theorem VR.agg_inv {cs : List V} (h : VR c (.agg cs) v) : ∃ vs, v = .agg vs ∧ cs.length = vs.size ∧ ∀ (i : Nat) (x : V) (u : Value), cs[i]? = some x → vs[i]? = some u → VR c x u := by
  cases h with | agg _ vs hl h => exact ⟨vs, rfl, hl, h⟩
theorem VR.tup_inv {cs : List V} (h : VR c (.tup cs) v) : ∃ vs, v = .tuple vs ∧ cs.length = vs.size ∧ ∀ (i : Nat) (x : V) (u : Value), cs[i]? = some x → vs[i]? = some u → VR c x u := by
  cases h with | tup _ vs hl h => exact ⟨vs, rfl, hl, h⟩
end inv

/-- An operation that gives a value and leaves the world alone. -/
theorem OpOK.value {E : Env} {o : Oper} {t : Nat → V} {h : Heap} {n : Nat} {rd : List Nat} {v : V}
    (H : ∀ (c : Cx) (a : Act) (h2 : Heap), (∀ x ∈ o.op.operands, VR c (E.eval t x) (a.eval x)) → Good E c h2 → (∀ id ∈ rd, h2 id = h id) →
      ∃ v', (execOp a.eval o).run E.P c.w = .ok (.value v') c.w ∧ VR c v v') : OpOK E o t h n rd false v [] n := by
  intro c a h2 K Q hd hx hg hrd _ _ hK
  obtain ⟨v', hrun, hv⟩ := H c a h2 hx hg hrd
  unfold Oper.wp
  rw [hrun, Oper.upon_value]
  exact hK c v' (Ext.refl c) hg (fun id h => .inl h) hv

section ops
variable {E : Env} {o : Oper} {t : Nat → V} {h : Heap} {n : Nat}

theorem op_move {x : Operand} (ho : o.op = .move x) : OpOK E o t h n [] false (E.eval t x) [] n :=
  OpOK.value fun c a h2 hx hg _ => ⟨a.eval x, by simp [execOp, ho], hx x (by simp [ho, Op.operands])⟩

theorem op_assign {x : Operand} (ho : o.op = .assign x) : OpOK E o t h n [] false (E.eval t x) [] n :=
  OpOK.value fun c a h2 hx hg _ => ⟨a.eval x, by simp [execOp, ho], hx x (by simp [ho, Op.operands])⟩

def pickV : Bool → V → V → V
  | k, .bool x, .bool y => .bool (cond k x y)
  | true, a, _ => a
  | false, _, b => b

theorem pick_ok {c : Cx} {A B : V} {va vb : Value} {k : Bool} (ha : VR c A va) (hb : VR c B vb) : VR c (pickV k A B) (if k then va else vb) := by
  cases k with
  | true =>
    rw [if_pos rfl]
    cases ha with
    | bool x => cases hb <;> exact .bool _
    | _ => simp only [pickV]; constructor <;> assumption
  | false =>
    rw [if_neg (by simp)]
    cases hb with
    | bool x => cases ha <;> exact .bool _
    | _ => cases ha <;> simp only [pickV] <;> (constructor <;> assumption)

theorem op_pick {x y z : Operand} {k : Bool} (ho : o.op = .pick x y z) (hc : E.eval t x = .bool k) : OpOK E o t h n [] false (pickV k (E.eval t y) (E.eval t z)) [] n :=
  OpOK.value fun c a h2 hx hg _ => by
    have h1 := hx x (by simp [ho, Op.operands])
    have h2 := hx y (by simp [ho, Op.operands])
    have h3 := hx z (by simp [ho, Op.operands])
    rw [hc] at h1
    refine ⟨if k then a.eval y else a.eval z, by simp [execOp, ho, h1.bool_inv, asBool], ?_⟩
    exact pick_ok h2 h3

def V.nonnil : V → Bool
  | .ptr .. | .iptr .. | .clo .. => true
  | _ => false

theorem op_nilCheck {x : Operand} (ho : o.op = .nilCheck x) (hn : (E.eval t x).nonnil = true) : OpOK E o t h n [] false (E.eval t x) [] n :=
  OpOK.value fun c a h2 hx hg _ => by
    have h1 := hx x (by simp [ho, Op.operands])
    refine ⟨a.eval x, ?_, h1⟩
    revert h1 hn
    generalize E.eval t x = u
    generalize hw : a.eval x = w
    intro hn h1
    cases h1 with
    | ptr => simp [execOp, ho, hw]
    | iptr => simp [execOp, ho, hw]
    | clo => simp [execOp, ho, hw]
    | _ => simp [V.nonnil] at hn

theorem op_extract {x : Operand} {i : Nat} {vs : List V} {v : V} (ho : o.op = .extract x i) (hx : E.eval t x = .tup vs) (hi : vs[i]? = some v) : OpOK E o t h n [] false v [] n :=
  OpOK.value fun c a h2 hx' hg _ => by
    have h1 := hx' x (by simp [ho, Op.operands])
    rw [hx] at h1
    obtain ⟨us, h2, h3, h4⟩ := h1.tup_inv
    have hlt : i < us.size := by rw [← h3]; exact (List.getElem?_eq_some_iff.1 hi).1
    exact ⟨us[i], by simp [execOp, ho, h2, Instr.extract, hlt], h4 i v us[i] hi (by simp [hlt])⟩

theorem op_makeFunc {f : FuncId} {caps : Array Operand} (ho : o.op = .makeFunc (.func f) #[] caps) : OpOK E o t h n [] false (.clo f (caps.toList.map (E.eval t))) [] n :=
  OpOK.value fun c a h2 hx hg _ => by
    refine ⟨.func (.func f) #[] (caps.map a.eval), by simp [execOp, ho, Instr.makeFunc], .clo _ _ _ (by simp) fun i x v h1 h2 => ?_⟩
    simp only [List.getElem?_map, Array.getElem?_toList, Array.getElem?_map] at h1 h2
    cases hc : caps[i]? with
    | none => simp [hc] at h1
    | some y =>
      simp only [hc, Option.map_some, Option.some.injEq] at h1 h2
      subst h1; subst h2
      refine hx y ?_
      simp only [ho, Op.operands]
      simp
      exact Array.mem_of_getElem? hc

theorem op_not {ty : TypeId} {x : Operand} {b : Bool} (ho : o.op = .unOp .not ty x) (hx : E.eval t x = .bool b) : OpOK E o t h n [] false (.bool (!b)) [] n :=
  OpOK.value fun c a h2 hx' hg _ => by
    have h1 := hx' x (by simp [ho, Op.operands])
    rw [hx] at h1
    exact ⟨.bool (!b), by simp [execOp, ho, h1.bool_inv, Op.unary], .bool _⟩

/-- The operations on two integers of one kind. -/
def intOp (op : BinOp) (k : IntKind) (a b : Int) : Option V :=
  match op with
  | .add => some (.int k (k.wrap (a + b)))
  | .sub => some (.int k (k.wrap (a - b)))
  | .mul => some (.int k (k.wrap (a * b)))
  | .and => some (.int k (bits .and k a b))
  | .or => some (.int k (bits .or k a b))
  | .xor => some (.int k (bits .xor k a b))
  | .andNot => some (.int k (bits .andNot k a b))
  | .eql => some (.bool (a == b))
  | .neq => some (.bool (a != b))
  | .lss => some (.bool (decide (a < b)))
  | .leq => some (.bool (decide (a ≤ b)))
  | .gtr => some (.bool (decide (a > b)))
  | .geq => some (.bool (decide (a ≥ b)))
  | _ => none

theorem op_int {op : BinOp} {ty ty' : TypeId} {x y : Operand} {k : IntKind} {a b : Int} {v : V} (ho : o.op = .binOp op ty x y ty') (hx : E.eval t x = .int k a) (hy : E.eval t y = .int k b)
    (hv : intOp op k a b = some v) : OpOK E o t h n [] false v [] n :=
  OpOK.value fun c ac h2 hx' hg _ => by
    have h1 := hx' x (by simp [ho, Op.operands])
    have h2 := hx' y (by simp [ho, Op.operands])
    rw [hx] at h1; rw [hy] at h2
    have e1 := h1.int_inv
    have e2 := h2.int_inv
    cases op <;> simp only [intOp, Option.some.injEq, reduceCtorEq] at hv <;> subst hv
    all_goals first
      | exact ⟨_, by simp only [execOp, ho, e1, e2, eqGuard_at_int, binOp_add, binOp_sub, binOp_mul, binOp_and, binOp_or, binOp_xor, binOp_andNot, binOp_eql, binOp_neq, binOp_lss, binOp_leq, binOp_gtr, binOp_geq,
          Op.intArith, intBits_and, intBits_or, intBits_xor, intBits_andNot]; rfl, .int _ _⟩
      | exact ⟨_, by simp only [execOp, ho, e1, e2, eqGuard_at_int, binOp_add, binOp_sub, binOp_mul, binOp_and, binOp_or, binOp_xor, binOp_andNot, binOp_eql, binOp_neq, binOp_lss, binOp_leq, binOp_gtr, binOp_geq,
          Op.intArith, intBits_and, intBits_or, intBits_xor, intBits_andNot]; rfl, .bool _⟩

theorem op_quo {ty ty' : TypeId} {x y : Operand} {k : IntKind} {a b : Int} (ho : o.op = .binOp .quo ty x y ty') (hx : E.eval t x = .int k a) (hy : E.eval t y = .int k b)
    (hb : b ≠ 0) : OpOK E o t h n [] false (.int k (k.wrap (a.tdiv b))) [] n :=
  OpOK.value fun c ac h2 hx' hg _ => by
    have h1 := hx' x (by simp [ho, Op.operands])
    have h2 := hx' y (by simp [ho, Op.operands])
    rw [hx] at h1; rw [hy] at h2
    exact ⟨.int k (k.wrap (a.tdiv b)), by simp [execOp, ho, h1.int_inv, h2.int_inv, eqGuard_at_int, binOp_quo, Op.intDiv, hb], .int _ _⟩

theorem op_rem {ty ty' : TypeId} {x y : Operand} {k : IntKind} {a b : Int} (ho : o.op = .binOp .rem ty x y ty') (hx : E.eval t x = .int k a) (hy : E.eval t y = .int k b)
    (hb : b ≠ 0) : OpOK E o t h n [] false (.int k (a.tmod b)) [] n :=
  OpOK.value fun c ac h2 hx' hg _ => by
    have h1 := hx' x (by simp [ho, Op.operands])
    have h2 := hx' y (by simp [ho, Op.operands])
    rw [hx] at h1; rw [hy] at h2
    exact ⟨.int k (a.tmod b), by simp [execOp, ho, h1.int_inv, h2.int_inv, eqGuard_at_int, binOp_rem, Op.intDiv, hb], .int _ _⟩

/-- The operations on two strings; two strings are put together under a bound of their own. -/
def strOp (op : BinOp) (a b : ByteArray) : Option V :=
  match op with
  | .eql => some (.bool (a.toList == b.toList))
  | .neq => some (.bool (!(a.toList == b.toList)))
  | .lss => some (.bool (Op.bytesLess a.toList b.toList))
  | .leq => some (.bool (Op.bytesLess a.toList b.toList || a.toList == b.toList))
  | .gtr => some (.bool (!(Op.bytesLess a.toList b.toList || a.toList == b.toList)))
  | .geq => some (.bool (!Op.bytesLess a.toList b.toList))
  | _ => none

theorem op_str {op : BinOp} {ty ty' : TypeId} {x y : Operand} {a b : ByteArray} {v : V} (ho : o.op = .binOp op ty x y ty') (hx : E.eval t x = .str a) (hy : E.eval t y = .str b)
    (hv : strOp op a b = some v) : OpOK E o t h n [] false v [] n :=
  OpOK.value fun c ac h2 hx' hg _ => by
    have h1 := hx' x (by simp [ho, Op.operands])
    have h2 := hx' y (by simp [ho, Op.operands])
    rw [hx] at h1; rw [hy] at h2
    have e1 := h1.str_inv
    have e2 := h2.str_inv
    cases op <;> simp only [strOp, Option.some.injEq, reduceCtorEq] at hv <;> subst hv
    all_goals exact ⟨_, by simp only [execOp, ho, e1, e2, eqGuard_at_string, binOp, Op.stringOp]; rfl, .bool _⟩

theorem op_cat {ty ty' : TypeId} {x y : Operand} {a b : ByteArray} (ho : o.op = .binOp .add ty x y ty') (hx : E.eval t x = .str a) (hy : E.eval t y = .str b)
    (hs : a.size + b.size ≤ 9223372036854775807) : OpOK E o t h n [] false (.str (a ++ b)) [] n :=
  OpOK.value fun c ac h2 hx' hg _ => by
    have h1 := hx' x (by simp [ho, Op.operands])
    have h2 := hx' y (by simp [ho, Op.operands])
    rw [hx] at h1; rw [hy] at h2
    have hle : ¬ ((a.size + b.size : Nat) : Int) > IntKind.i64.max := by rw [IntKind.max_i64]; omega
    exact ⟨.string (a ++ b), by simp only [execOp, ho, h1.str_inv, h2.str_inv, eqGuard_at_string, binOp, Op.stringOp, if_neg hle]; rfl, .str _⟩

theorem op_conv {s d : TypeId} {x : Operand} {k k' : IntKind} {m : Int} (ho : o.op = .convert s d x) (hx : E.eval t x = .int k m) (hs : (E.P.underlying s).isSome = true) (hd : E.P.underlying d = some (.int k')) :
    OpOK E o t h n [] false (.int k' (k'.wrap m)) [] n :=
  OpOK.value fun c a h2 hx' hg _ => by
    have h1 := hx' x (by simp [ho, Op.operands])
    rw [hx] at h1
    obtain ⟨ds, hds⟩ := Option.isSome_iff_exists.mp hs
    exact ⟨.int k' (k'.wrap m), by simp [execOp, ho, h1.int_inv, convert, run_underlying hds, run_underlying hd, Conv.intToInt], .int _ _⟩

end ops
end Go.V
