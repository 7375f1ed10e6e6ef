/- A logic over abstract states: comparisons with nil, structs compared; the text's control; calls. No conditions. -/
import Derived.Test.YtknnniaoboaghaaVi
import Derived.LoopN
namespace Go.V
open Go.RowKit (Below)
set_option linter.unusedSimpArgs false
set_option linter.unusedVariables false

section ops
variable {E : Env} {o : Oper} {t : Nat → V} {h : Heap} {n : Nat}

/-- Is a slice nil, where that is known? -/
def nilV : V → Option Bool
  | .nsl => some true
  | .view _ _ _ => some false
  | .sl _ true _ => some false
  | .sl _ false (_ :: _) => some false
  | _ => none

theorem nilV_spec {c : Cx} {x : V} {v : Value} {b : Bool} (h : VR c x v) (hn : nilV x = some b) : ∃ a l k, v = .slice a l k ∧ a.isNone = b := by
  cases h with
  | nsl => simp only [nilV, Option.some.injEq] at hn; subst hn; exact ⟨_, _, _, rfl, rfl⟩
  | view id off len p o cap hp ho hl => simp only [nilV, Option.some.injEq] at hn; subst hn; exact ⟨_, _, _, rfl, rfl⟩
  | sl fr nn es v h =>
    cases h with
    | sl _ _ a len cap sz rd hlen hcap hnil =>
      cases a with
      | some A =>
        refine ⟨_, _, _, rfl, ?_⟩
        unfold nilV at hn
        split at hn <;> simp_all
      | none =>
        obtain ⟨h1, h2, h3⟩ := hnil rfl
        subst h1; subst h2
        simp [nilV] at hn
  | _ => simp [nilV] at hn

theorem op_isnil {op : BinOp} {ty ty' e : TypeId} {x : Operand} {m k : Nat} {b : Bool} (ho : o.op = .binOp op ty x (.const (.slice none m k)) ty') (hop : op = .eql ∨ op = .neq) (hu : E.P.underlying ty = some (.slice e))
    (hx : nilV (E.eval t x) = some b) : OpOK E o t h n [] false (.bool (if op = .eql then b else !b)) [] n :=
  OpOK.value fun c ac h2 hx' hg _ => by
    have h1 := hx' x (by simp [ho, Op.operands])
    obtain ⟨a, l, k', hv, hb⟩ := nilV_spec h1 hx
    have hc : ac.eval (.const (.slice none m k)) = .slice none m k := rfl
    rcases hop with rfl | rfl
    · refine ⟨.bool b, ?_, .bool _⟩
      simp only [execOp, ho, hv, hc, eqGuard_at_slice, Sem.run_bind, Sem.run_pure, Result.andThen_ok, Lib.run_eql_slice_nil _ _ _ _ _ _ _ _ hu, hb]
    · refine ⟨.bool (!b), ?_, .bool _⟩
      simp only [execOp, ho, hv, hc, eqGuard_at_slice, Sem.run_bind, Sem.run_pure, Result.andThen_ok, run_neq_slice_nil_any _ _ _ _ _ _ _ _ hu, hb]

def eqFieldsV (P : Program) (rec : TypeId → V → V → Option Bool) (xs ys : List V) : List Field → Option Bool
  | [] => some true
  | f :: fs => if f.name = "_" then none else
    match rowP P f.type with
    | some (r, k) => if f.offset + k ≤ xs.length ∧ f.offset + k ≤ ys.length then
        match partV xs f.offset k r, partV ys f.offset k r with
        | some a, some b => match rec f.type a b, eqFieldsV P rec xs ys fs with
          | some r1, some r2 => some (r1 && r2)
          | _, _ => none
        | _, _ => none
      else none
    | none => none

def eqV (P : Program) : Nat → TypeId → V → V → Option Bool
  | 0, _, _, _ => none
  | d + 1, ty, x, y => match P.underlying ty, x, y with
    | some .bool, .bool a, .bool b => some (a == b)
    | some (.int _), .int k a, .int k' b => if k = k' then some (a == b) else none
    | some .string, .str a, .str b => some (a.toList == b.toList)
    | some (.struct fs), .agg xs, .agg ys => if P.stoodInHeld ty then none else eqFieldsV P (eqV P d) xs ys fs.toList
    | _, _, _ => none

end ops

/-! ### The text's control -/

inductive Ex where
  | norm
  | exit (id : Nat)
  | ret

def Ex.out : Ex → Exit
  | .norm => .normal
  | .exit id => .exit id
  | .ret => .ret

/-- The code, from an abstract state, comes to an abstract state. -/
def Exec (E : Env) (sz : Nat) (k : Code) (t : Nat → V) (h : Heap) (n : Nat) (x : Ex) (t' : Nat → V) (h' : Heap) (n' : Nat) : Prop :=
  n ≤ n' ∧ ∀ (c : Cx) (a : Act), Slots sz t c a → Good E c h → (∀ id, n ≤ id → c.ρ id = none) →
    k.wp E.P (fun e a' w' => e = x.out ∧ ∃ c' : Cx, c'.w = w' ∧ Ext c c' ∧ Slots sz t' c' a' ∧ Good E c' h' ∧ ∀ id, c'.ρ id ≠ none → c.ρ id ≠ none ∨ (n ≤ id ∧ id < n')) a c.w

theorem free_of_dom {c c' : Cx} {n n' : Nat} (hn : n ≤ n') (hf : ∀ id, n ≤ id → c.ρ id = none) (hd : ∀ id, c'.ρ id ≠ none → c.ρ id ≠ none ∨ (n ≤ id ∧ id < n')) : ∀ id, n' ≤ id → c'.ρ id = none := by
  intro id hid
  cases hc : c'.ρ id with
  | none => rfl
  | some p =>
    rcases hd id (by simp [hc]) with h1 | h1
    · exact absurd (hf id (by omega)) h1
    · omega

theorem dom_trans {c c1 c2 : Cx} {n n1 n2 : Nat} (h1 : n ≤ n1) (h2 : n1 ≤ n2) (d1 : ∀ id, c1.ρ id ≠ none → c.ρ id ≠ none ∨ (n ≤ id ∧ id < n1)) (d2 : ∀ id, c2.ρ id ≠ none → c1.ρ id ≠ none ∨ (n1 ≤ id ∧ id < n2)) :
    ∀ id, c2.ρ id ≠ none → c.ρ id ≠ none ∨ (n ≤ id ∧ id < n2) := by
  intro id hid
  rcases d2 id hid with h | h
  · rcases d1 id h with h' | h'
    · exact .inl h'
    · exact .inr (by omega)
  · exact .inr (by omega)

section exec
variable {E : Env} {sz : Nat} {t t1 t2 : Nat → V} {h h1 h2 : Heap} {n n1 n2 : Nat} {x : Ex}

theorem Exec.skip : Exec E sz .skip t h n .norm t h n := ⟨Nat.le_refl _, fun c a hs hg hf => wp_skip ⟨rfl, c, rfl, Ext.refl c, hs, hg, fun id h => .inl h⟩⟩
theorem Exec.ret : Exec E sz .ret t h n .ret t h n := ⟨Nat.le_refl _, fun c a hs hg hf => wp_ret ⟨rfl, c, rfl, Ext.refl c, hs, hg, fun id h => .inl h⟩⟩
theorem Exec.exit (id : Nat) : Exec E sz (.exit id) t h n (.exit id) t h n := ⟨Nat.le_refl _, fun c a hs hg hf => wp_exit ⟨rfl, c, rfl, Ext.refl c, hs, hg, fun id h => .inl h⟩⟩

theorem Exec.seq {k1 k2 : Code} (e1 : Exec E sz k1 t h n .norm t1 h1 n1) (e2 : Exec E sz k2 t1 h1 n1 x t2 h2 n2) : Exec E sz (.seq k1 k2) t h n x t2 h2 n2 := by
  refine ⟨Nat.le_trans e1.1 e2.1, fun c a hs hg hf => ?_⟩
  refine wp_seq (wp_mono (e1.2 c a hs hg hf) ?_)
  rintro e a' w' ⟨rfl, c', rfl, hx, hs', hg', hf'⟩
  refine wp_mono (e2.2 c' a' hs' hg' (free_of_dom e1.1 hf hf')) ?_
  rintro e a2 w2 ⟨he, c2, hw, hx2, hs2, hg2, hd2⟩
  exact ⟨he, c2, hw, hx.trans hx2, hs2, hg2, dom_trans e1.1 e2.1 hf' hd2⟩

theorem Exec.seq_out {k1 k2 : Code} (e1 : Exec E sz k1 t h n x t1 h1 n1) (hx : x ≠ .norm) : Exec E sz (.seq k1 k2) t h n x t1 h1 n1 := by
  refine ⟨e1.1, fun c a hs hg hf => ?_⟩
  refine wp_seq (wp_mono (e1.2 c a hs hg hf) ?_)
  rintro e a' w' ⟨rfl, r⟩
  cases x with
  | norm => exact absurd rfl hx
  | exit id => exact ⟨rfl, r⟩
  | ret => exact ⟨rfl, r⟩

theorem Exec.cond {o : Operand} {k1 k2 : Code} {b : Bool} (hb : E.eval t o = .bool b) (e : Exec E sz (if b then k1 else k2) t h n x t1 h1 n1) : Exec E sz (.cond o k1 k2) t h n x t1 h1 n1 := by
  refine ⟨e.1, fun c a hs hg hf => ?_⟩
  have h1 := eval_ok hs hg o
  rw [hb] at h1
  exact wp_cond h1.bool_inv (e.2 c a hs hg hf)

theorem Exec.cond_t {o : Operand} {k1 k2 : Code} (hb : E.eval t o = .bool true) (e : Exec E sz k1 t h n x t1 h1 n1) : Exec E sz (.cond o k1 k2) t h n x t1 h1 n1 := Exec.cond hb e
theorem Exec.cond_f {o : Operand} {k1 k2 : Code} (hb : E.eval t o = .bool false) (e : Exec E sz k2 t h n x t1 h1 n1) : Exec E sz (.cond o k1 k2) t h n x t1 h1 n1 := Exec.cond hb e

def Ex.inBlock (id : Nat) : Ex → Ex
  | .exit i => if i = id then .norm else .exit i
  | e => e

theorem Exec.block {id : Nat} {k : Code} {y : Ex} (e : Exec E sz k t h n y t1 h1 n1) (hy : y.inBlock id = x) : Exec E sz (.block id k) t h n x t1 h1 n1 := by
  refine ⟨e.1, fun c a hs hg hf => ?_⟩
  subst hy
  refine wp_block (wp_mono (e.2 c a hs hg hf) ?_)
  rintro e a' w' ⟨rfl, r⟩
  cases y with
  | norm => exact ⟨rfl, r⟩
  | ret => exact ⟨rfl, r⟩
  | exit i =>
    by_cases hi : i = id
    · subst hi
      simp only [Exit.inBlock, Ex.out, Ex.inBlock, if_true]
      exact ⟨trivial, r⟩
    · simp only [Exit.inBlock, Ex.out, Ex.inBlock, hi, if_false]
      exact ⟨trivial, r⟩

/-- Rounds of a loop, the last of which leaves it. -/
inductive Loops (E : Env) (sz : Nat) (k : Code) : (Nat → V) → Heap → Nat → Ex → (Nat → V) → Heap → Nat → Prop
  | last {t : Nat → V} {h : Heap} {n : Nat} {x : Ex} {t1 : Nat → V} {h1 : Heap} {n1 : Nat} (e : Exec E sz k t h n x t1 h1 n1) (hx : x ≠ .norm) : Loops E sz k t h n x t1 h1 n1
  | more {t : Nat → V} {h : Heap} {n : Nat} {x : Ex} {t1 : Nat → V} {h1 : Heap} {n1 : Nat} {t2 : Nat → V} {h2 : Heap} {n2 : Nat} (e : Exec E sz k t h n .norm t1 h1 n1) (r : Loops E sz k t1 h1 n1 x t2 h2 n2) : Loops E sz k t h n x t2 h2 n2

theorem rounds_mono {P : Program} {k : Code} {Q Q' : Exit → Act → World → Prop} (hq : ∀ e a w, Q e a w → Q' e a w) : ∀ (m : Nat) (a : Act) (w : World), Code.rounds P k Q m a w → Code.rounds P k Q' m a w
  | 0, _, _, h => h
  | m + 1, a, w, h => by
    rw [rounds_succ] at h ⊢
    refine wp_mono h ?_
    intro e a' w' q
    cases e with
    | normal => exact rounds_mono hq m a' w' q
    | _ => exact hq _ _ _ q

theorem Loops.le {k : Code} {t : Nat → V} {h : Heap} {n : Nat} {x : Ex} {t1 : Nat → V} {h1 : Heap} {n1 : Nat} (r : Loops E sz k t h n x t1 h1 n1) : n ≤ n1 := by
  induction r with
  | last e _ => exact e.1
  | more e _ ih => exact Nat.le_trans e.1 ih

theorem Exec.loop {k : Code} (r : Loops E sz k t h n x t1 h1 n1) : Exec E sz (.loop k) t h n x t1 h1 n1 := by
  refine ⟨r.le, fun c a hs hg hf => ?_⟩
  have key : ∀ {t : Nat → V} {h : Heap} {n : Nat} {x : Ex} {t1 : Nat → V} {h1 : Heap} {n1 : Nat}, Loops E sz k t h n x t1 h1 n1 → ∃ m, ∀ (c : Cx) (a : Act), Slots sz t c a → Good E c h → (∀ id, n ≤ id → c.ρ id = none) →
      Code.rounds E.P k (fun e a' w' => e = x.out ∧ ∃ c' : Cx, c'.w = w' ∧ Ext c c' ∧ Slots sz t1 c' a' ∧ Good E c' h1 ∧ ∀ id, c'.ρ id ≠ none → c.ρ id ≠ none ∨ (n ≤ id ∧ id < n1)) m a c.w := by
    intro t h n x t1 h1 n1 r
    induction r with
    | last e hx =>
      refine ⟨1, fun c a hs hg hf => ?_⟩
      rw [rounds_succ]
      refine wp_mono (e.2 c a hs hg hf) ?_
      rintro e a' w' ⟨rfl, r⟩
      rename_i y _ _ _
      cases y with
      | norm => exact absurd rfl hx
      | exit id => exact ⟨rfl, r⟩
      | ret => exact ⟨rfl, r⟩
    | more e r ih =>
      obtain ⟨m, hm⟩ := ih
      refine ⟨m + 1, fun c a hs hg hf => ?_⟩
      rw [rounds_succ]
      refine wp_mono (e.2 c a hs hg hf) ?_
      rintro e' a' w' ⟨rfl, c', rfl, hx, hs', hg', hf'⟩
      have := hm c' a' hs' hg' (free_of_dom e.1 hf hf')
      refine rounds_mono ?_ m _ _ this
      rintro e2 a2 w2 ⟨he, c2, hw, hx2, hs2, hg2, hd2⟩
      exact ⟨he, c2, hw, hx.trans hx2, hs2, hg2, dom_trans e.1 r.le hf' hd2⟩
  obtain ⟨m, hm⟩ := key r
  exact wp_loop_rounds m (hm c a hs hg hf)

/-- A region in the text's order. -/
theorem Exec.region {id : Nat} {ops : Array Oper} {es : List Ef} (r : Runs E sz ops ops.toList t h n es t1 h1 n1) : Exec E sz (.region id ops false) t h n .norm t1 h1 n1 := by
  refine ⟨r.le, fun c a hs hg hf => ?_⟩
  exact wp_region_list (r.seq c a hs hg hf fun c' a' hx hs' hg' hf' => ⟨rfl, c', rfl, hx, hs', hg', hf'⟩)

/-- A region that draws its order. -/
theorem Exec.draw {id : Nat} {ops : Array Oper} {es : List Ef} (bl : List Nat) (rs : List (Nat × Nat)) (hm : E.P.follows .mixedOrders = true) (hst : statOK ops bl = true) (r : Runs E sz ops ops.toList t h n es t1 h1 n1)
    (hres : residE ops.size bl es = rs) (hcl : ClearL es rs) : Exec E sz (.region id ops true) t h n .norm t1 h1 n1 := by
  refine ⟨r.le, fun c a hs hg hf => ?_⟩
  refine wp_region_any hm ?_
  have hx : Ext c { c with w := c.w.drew } := Ext.same c rfl rfl rfl rfl
  have hno : inS (Array.replicate ops.size false) = fun _ => false := by
    funext j; unfold inS
    by_cases hj : j < ops.size <;> simp [hj]
  have hT : foldT ((ops.toList.map (·.dst)).zip es) (inS (Array.replicate ops.size false)) t = t := by
    rw [hno]
    have : ∀ (l : List (Option Nat × Ef)) (t : Nat → V), foldT l (fun _ => false) t = t := by
      intro l; induction l with
      | nil => intro t; rfl
      | cons y l ih => intro t; obtain ⟨_, _⟩ := y; simp only [foldT]; exact ih t
    exact this _ _
  have hH : foldH ((ops.toList.map (·.dst)).zip es) (inS (Array.replicate ops.size false)) h = h := by
    rw [hno]
    have : ∀ (l : List (Option Nat × Ef)) (t : Heap), foldH l (fun _ => false) t = t := by
      intro l; induction l with
      | nil => intro t; rfl
      | cons y l ih => intro t; obtain ⟨_, _⟩ := y; simp only [foldH]; exact ih t
    exact this _ _
  exact draw_any bl rs hst r hres hcl { c with w := c.w.drew } hf (fun c' a' hx' hs' hg' hf' => ⟨rfl, c', rfl, hx.trans hx', hs', hg', hf'⟩) ops.size (Array.replicate ops.size false) { c with w := c.w.drew } a (by simp)
    (fun j hj => by rw [hno] at hj; cases hj) (Ext.refl _) (by rw [hT]; exact hs.mono hx) (by rw [hH]; exact hg.drew) (fun id hid => .inl hid) (by unfold unl; exact Nat.le_trans List.count_le_length (by simp))

end exec
end Go.V
