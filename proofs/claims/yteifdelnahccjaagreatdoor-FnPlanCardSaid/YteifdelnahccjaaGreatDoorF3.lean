import Derived.LoopN
import Derived.WideKeyArr
import Derived.Test.YteifdelnahccjaaGreatDoorF2
namespace Go.V
open Go.RowKit (Below)
set_option linter.unusedSimpArgs false
set_option linter.unusedVariables false
section ops
variable {E : Env} {o : Oper} {t : Nat → V} {h : Heap} {n : Nat}
def nilV : V → Option Bool
  | .nsl => some true
  | .view _ _ _ => some false
  | .sl _ true _ => some false
  | .sl _ false (_ :: _) => some false
  | _ => none
theorem nilV_spec {c : Cx} {x : V} {v : Value} {b : Bool} (h : VR c x v) (hn : nilV x = some b) : ∃ a l k, v = .slice a l k ∧ a.isNone = b := by
  cases h with
  | nsl => simp only [nilV, Option.some.injEq] at hn; subst hn; exact ⟨_, _, _, rfl, rfl⟩
  | view id off len p o cap hp ho hl => simp only [nilV, Option.some.injEq] at hn; subst hn; exact ⟨_, _, _, rfl, rfl⟩
  | sl fr nn es v h =>
    cases h with
    | sl _ _ a len cap sz rd hlen hcap hnil =>
      cases a with
      | some A =>
        refine ⟨_, _, _, rfl, ?_⟩
        unfold nilV at hn
        split at hn <;> simp_all
      | none =>
        obtain ⟨h1, h2, h3⟩ := hnil rfl
        subst h1; subst h2
        simp [nilV] at hn
  | _ => simp [nilV] at hn
theorem S6 {op : BinOp} {ty ty' e : TypeId} {x : Operand} {m k : Nat} {b : Bool} (ho : o.op = .binOp op ty x (.const (.slice none m k)) ty') (hop : op = .eql ∨ op = .neq) (hu : E.P.underlying ty = some (.slice e))
    (hx : nilV (E.eval t x) = some b) : OpOK E o t h n [] false (.bool (if op = .eql then b else !b)) [] n :=
  OpOK.value fun c ac h2 hx' hg _ => by
    have h1 := hx' x (by simp [ho, Op.operands])
    obtain ⟨a, l, k', hv, hb⟩ := nilV_spec h1 hx
    have hc : ac.eval (.const (.slice none m k)) = .slice none m k := rfl
    rcases hop with rfl | rfl
    · refine ⟨.bool b, ?_, .bool _⟩
      simp only [execOp, ho, hv, hc, eqGuard_at_slice, Sem.run_bind, Sem.run_pure, Result.andThen_ok, Lib.run_eql_slice_nil _ _ _ _ _ _ _ _ hu, hb]
    · refine ⟨.bool (!b), ?_, .bool _⟩
      simp only [execOp, ho, hv, hc, eqGuard_at_slice, Sem.run_bind, Sem.run_pure, Result.andThen_ok, run_neq_slice_nil_any _ _ _ _ _ _ _ _ hu, hb]
theorem part_ok {c : Cx} {cs : List V} {vs : Array Value} (hl : cs.length = vs.size) (hr : ∀ (i : Nat) (x : V) (u : Value), cs[i]? = some x → vs[i]? = some u → VR c x u) {P : Program} {ty : TypeId} {off k : Nat} {r : Bool} {x : V}
    (hp : rowP P ty = some (r, k)) (hv : partV cs off k r = some x) (hle : off + k ≤ cs.length) : ∃ u, (∀ w, (part ty vs off).run P w = .ok u w) ∧ VR c x u := by
  obtain ⟨d, hu, hd, hs⟩ := F3 hp
  have hagg : ∀ w, (isAgg ty).run P w = .ok r w := by
    intro w
    unfold isAgg
    rw [Sem.run_bind, run_underlying hu w, ← hd]
    cases d <;> simp
  cases hi : P.info? ty with
  | none => simp [hi] at hs
  | some i =>
    simp only [hi, Option.map_some, Option.some.injEq] at hs
    cases r with
    | true =>
      simp only [partV, if_true, Option.some.injEq] at hv
      subst hv
      refine ⟨.agg (vs.extract off (off + k)), fun w => by simp [part, hagg, sizeOf, typeInfo, hi, hs], .agg _ _ (by simp; omega) fun m y u h3 h4 => ?_⟩
      have hmk : m < k := by
        have := (List.getElem?_eq_some_iff.1 h3).1
        simp at this; omega
      rw [List.getElem?_take_of_lt hmk, List.getElem?_drop] at h3
      have : (vs.extract off (off + k))[m]? = vs[off + m]? := by
        rw [Array.getElem?_extract]
        rw [if_pos (by omega)]
      rw [this] at h4
      exact hr _ _ _ h3 h4
    | false =>
      simp only [partV, Bool.false_eq_true, if_false] at hv
      have hlt : off < vs.size := by rw [← hl]; exact (List.getElem?_eq_some_iff.1 hv).1
      exact ⟨vs[off], fun w => by simp [part, hagg, hlt], hr off x _ hv (by simp [hlt])⟩
def eqFieldsV (P : Program) (rec : TypeId → V → V → Option Bool) (xs ys : List V) : List Field → Option Bool
  | [] => some true
  | f :: fs => if f.name = "_" then none else
    match rowP P f.type with
    | some (r, k) => if f.offset + k ≤ xs.length ∧ f.offset + k ≤ ys.length then
        match partV xs f.offset k r, partV ys f.offset k r with
        | some a, some b => match rec f.type a b, eqFieldsV P rec xs ys fs with
          | some r1, some r2 => some (r1 && r2)
          | _, _ => none
        | _, _ => none
      else none
    | none => none
def eqV (P : Program) : Nat → TypeId → V → V → Option Bool
  | 0, _, _, _ => none
  | d + 1, ty, x, y => match P.underlying ty, x, y with
    | some .bool, .bool a, .bool b => some (a == b)
    | some (.int _), .int k a, .int k' b => if k = k' then some (a == b) else none
    | some .string, .str a, .str b => some (a.toList == b.toList)
    | some (.struct fs), .agg xs, .agg ys => if P.stoodInHeld ty then none else eqFieldsV P (eqV P d) xs ys fs.toList
    | _, _, _ => none
theorem V3 {c : Cx} {P : Program} {d : Nat} (ih : ∀ (ty : TypeId) (x y : V) (r : Bool) (u v : Value), eqV P d ty x y = some r → VR c x u → VR c y v → ∀ w, (Op.equalIn d ty u v).run P w = .ok r w)
    {xs ys : List V} {us vs : Array Value} (hx : xs.length = us.size) (hxr : ∀ (i : Nat) (x : V) (u : Value), xs[i]? = some x → us[i]? = some u → VR c x u)
    (hy : ys.length = vs.size) (hyr : ∀ (i : Nat) (x : V) (u : Value), ys[i]? = some x → vs[i]? = some u → VR c x u) : ∀ (fs : List Field) (r : Bool), eqFieldsV P (eqV P d) xs ys fs = some r → ∀ w, (Op.eqFields d us vs fs).run P w = .ok r w
  | [], r, h, w => by simp only [eqFieldsV, Option.some.injEq] at h; subst h; simp [Op.eqFields]
  | f :: fs, r, h, w => by
    unfold eqFieldsV at h
    split at h
    · cases h
    · rename_i hname
      split at h
      · rename_i rr k hrow
        split at h
        · rename_i hle
          split at h
          · rename_i a b ha hb
            split at h
            · rename_i r1 r2 h1 h2
              simp only [Option.some.injEq] at h
              subst h
              obtain ⟨u, g1, g2⟩ := part_ok hx hxr hrow ha hle.1
              obtain ⟨v, g3, g4⟩ := part_ok hy hyr hrow hb hle.2
              have g5 := ih _ _ _ _ _ _ h1 g2 g4 w
              have g6 := V3 ih hx hxr hy hyr fs r2 h2 w
              simp only [Op.eqFields, ne_eq, hname, not_false_eq_true, if_true, Sem.run_bind, g1, g3, Result.andThen_ok, g5]
              cases r1 <;> simp [g6]
            · cases h
          · cases h
        · cases h
      · cases h
theorem eqV_ok {c : Cx} {P : Program} : ∀ (d : Nat) (ty : TypeId) (x y : V) (r : Bool) (u v : Value), eqV P d ty x y = some r → VR c x u → VR c y v → ∀ w, (Op.equalIn d ty u v).run P w = .ok r w
  | 0, _, _, _, _, _, _, h, _, _, _ => by simp [eqV] at h
  | d + 1, ty, x, y, r, u, v, h, hx, hy, w => by
    unfold eqV at h
    split at h
    · rename_i a b hu
      simp only [Option.some.injEq] at h; subst h
      rw [hx.bool_inv, hy.bool_inv]; exact run_equalIn_bool' w d ty a b hu
    · rename_i k' k a k2 b hu
      split at h
      · rename_i hk
        simp only [Option.some.injEq] at h; subst h; subst hk
        rw [hx.int_inv, hy.int_inv]; exact run_equalIn_int w d ty k k' a b hu
      · cases h
    · rename_i a b hu
      simp only [Option.some.injEq] at h; subst h
      rw [hx.str_inv, hy.str_inv]; exact run_equalIn_string w d ty a b hu
    · rename_i fs xs ys hu
      split at h
      · cases h
      · rename_i hst
        obtain ⟨us, rfl, h1, h2⟩ := hx.agg_inv
        obtain ⟨vs, rfl, h3, h4⟩ := hy.agg_inv
        have hf : P.fieldsOf ty = fs := by simp [Program.fieldsOf, hu]
        rw [run_equalIn_struct w d ty us vs (by rw [hf]; exact hu) (by simpa using hst), hf]
        exact V3 (fun ty x y r u v h hx hy w => eqV_ok d ty x y r u v h hx hy w) h1 h2 h3 h4 _ r h w
    · cases h
theorem op_structeq {op : BinOp} {ty ty' : TypeId} {x y : Operand} {xs ys : List V} {r : Bool} (ho : o.op = .binOp op ty x y ty') (hop : op = .eql ∨ op = .neq) (hx : E.eval t x = .agg xs) (hy : E.eval t y = .agg ys)
    (hgd : E.P.eqGuardType E.P.depth ty = false) (hr : eqV E.P 10000 ty (.agg xs) (.agg ys) = some r) : OpOK E o t h n [] false (.bool (if op = .eql then r else !r)) [] n :=
  OpOK.value fun c ac h2 hx' hg _ => by
    have h1 := hx' x (by simp [ho, Op.operands])
    have h2 := hx' y (by simp [ho, Op.operands])
    rw [hx] at h1; rw [hy] at h2
    have he := eqV_ok 10000 ty _ _ r _ _ hr h1 h2 c.w
    obtain ⟨us, e1, _⟩ := h1.agg_inv
    obtain ⟨vs, e2, _⟩ := h2.agg_inv
    rw [e1, e2] at he
    rcases hop with rfl | rfl
    · refine ⟨.bool r, ?_, .bool _⟩
      simp only [execOp, ho, e1, e2, Sem.run_bind, run_eqGuard_agg _ _ _ _ _ _ _ hgd, Result.andThen_ok, run_eql_struct, he, Sem.run_pure]
    · refine ⟨.bool (!r), ?_, .bool _⟩
      simp only [execOp, ho, e1, e2, Sem.run_bind, run_eqGuard_agg _ _ _ _ _ _ _ hgd, Result.andThen_ok, run_neq_struct, he, Sem.run_pure]
end ops
inductive Ex where
  | norm
  | exit (id : Nat)
  | ret
def Ex.out : Ex → Exit
  | .norm => .normal
  | .exit id => .exit id
  | .ret => .ret
def Exec (E : Env) (sz : Nat) (k : Code) (t : Nat → V) (h : Heap) (n : Nat) (x : Ex) (t' : Nat → V) (h' : Heap) (n' : Nat) : Prop :=
  n ≤ n' ∧ ∀ (c : Cx) (a : Act), Slots sz t c a → Good E c h → (∀ id, n ≤ id → c.ρ id = none) →
    k.wp E.P (fun e a' w' => e = x.out ∧ ∃ c' : Cx, c'.w = w' ∧ Ext c c' ∧ Slots sz t' c' a' ∧ Good E c' h' ∧ ∀ id, c'.ρ id ≠ none → c.ρ id ≠ none ∨ (n ≤ id ∧ id < n')) a c.w
theorem V4 {c c' : Cx} {n n' : Nat} (hn : n ≤ n') (hf : ∀ id, n ≤ id → c.ρ id = none) (hd : ∀ id, c'.ρ id ≠ none → c.ρ id ≠ none ∨ (n ≤ id ∧ id < n')) : ∀ id, n' ≤ id → c'.ρ id = none := by
  intro id hid
  cases hc : c'.ρ id with
  | none => rfl
  | some p =>
    rcases hd id (by simp [hc]) with h1 | h1
    · exact absurd (hf id (by omega)) h1
    · omega
theorem dom_trans {c c1 c2 : Cx} {n n1 n2 : Nat} (h1 : n ≤ n1) (h2 : n1 ≤ n2) (d1 : ∀ id, c1.ρ id ≠ none → c.ρ id ≠ none ∨ (n ≤ id ∧ id < n1)) (d2 : ∀ id, c2.ρ id ≠ none → c1.ρ id ≠ none ∨ (n1 ≤ id ∧ id < n2)) :
    ∀ id, c2.ρ id ≠ none → c.ρ id ≠ none ∨ (n ≤ id ∧ id < n2) := by
  intro id hid
  rcases d2 id hid with h | h
  · rcases d1 id h with h' | h'
    · exact .inl h'
    · exact .inr (by omega)
  · exact .inr (by omega)
section exec
variable {E : Env} {sz : Nat} {t t1 t2 : Nat → V} {h h1 h2 : Heap} {n n1 n2 : Nat} {x : Ex}
theorem Exec.skip : Exec E sz .skip t h n .norm t h n := ⟨Nat.le_refl _, fun c a hs hg hf => wp_skip ⟨rfl, c, rfl, Ext.refl c, hs, hg, fun id h => .inl h⟩⟩
theorem Exec.ret : Exec E sz .ret t h n .ret t h n := ⟨Nat.le_refl _, fun c a hs hg hf => wp_ret ⟨rfl, c, rfl, Ext.refl c, hs, hg, fun id h => .inl h⟩⟩
theorem Exec.exit (id : Nat) : Exec E sz (.exit id) t h n (.exit id) t h n := ⟨Nat.le_refl _, fun c a hs hg hf => wp_exit ⟨rfl, c, rfl, Ext.refl c, hs, hg, fun id h => .inl h⟩⟩
theorem Exec.seq {k1 k2 : Code} (e1 : Exec E sz k1 t h n .norm t1 h1 n1) (e2 : Exec E sz k2 t1 h1 n1 x t2 h2 n2) : Exec E sz (.seq k1 k2) t h n x t2 h2 n2 := by
  refine ⟨Nat.le_trans e1.1 e2.1, fun c a hs hg hf => ?_⟩
  refine wp_seq (wp_mono (e1.2 c a hs hg hf) ?_)
  rintro e a' w' ⟨rfl, c', rfl, hx, hs', hg', hf'⟩
  refine wp_mono (e2.2 c' a' hs' hg' (V4 e1.1 hf hf')) ?_
  rintro e a2 w2 ⟨he, c2, hw, hx2, hs2, hg2, hd2⟩
  exact ⟨he, c2, hw, hx.trans hx2, hs2, hg2, dom_trans e1.1 e2.1 hf' hd2⟩
theorem Exec.seq_out {k1 k2 : Code} (e1 : Exec E sz k1 t h n x t1 h1 n1) (hx : x ≠ .norm) : Exec E sz (.seq k1 k2) t h n x t1 h1 n1 := by
  refine ⟨e1.1, fun c a hs hg hf => ?_⟩
  refine wp_seq (wp_mono (e1.2 c a hs hg hf) ?_)
  rintro e a' w' ⟨rfl, r⟩
  cases x with
  | norm => exact absurd rfl hx
  | exit id => exact ⟨rfl, r⟩
  | ret => exact ⟨rfl, r⟩
theorem Exec.cond {o : Operand} {k1 k2 : Code} {b : Bool} (hb : E.eval t o = .bool b) (e : Exec E sz (if b then k1 else k2) t h n x t1 h1 n1) : Exec E sz (.cond o k1 k2) t h n x t1 h1 n1 := by
  refine ⟨e.1, fun c a hs hg hf => ?_⟩
  have h1 := eval_ok hs hg o
  rw [hb] at h1
  exact wp_cond h1.bool_inv (e.2 c a hs hg hf)
theorem Exec.cond_t {o : Operand} {k1 k2 : Code} (hb : E.eval t o = .bool true) (e : Exec E sz k1 t h n x t1 h1 n1) : Exec E sz (.cond o k1 k2) t h n x t1 h1 n1 := Exec.cond hb e
theorem Exec.cond_f {o : Operand} {k1 k2 : Code} (hb : E.eval t o = .bool false) (e : Exec E sz k2 t h n x t1 h1 n1) : Exec E sz (.cond o k1 k2) t h n x t1 h1 n1 := Exec.cond hb e
def Ex.inBlock (id : Nat) : Ex → Ex
  | .exit i => if i = id then .norm else .exit i
  | e => e
theorem Exec.block {id : Nat} {k : Code} {y : Ex} (e : Exec E sz k t h n y t1 h1 n1) (hy : y.inBlock id = x) : Exec E sz (.block id k) t h n x t1 h1 n1 := by
  refine ⟨e.1, fun c a hs hg hf => ?_⟩
  subst hy
  refine wp_block (wp_mono (e.2 c a hs hg hf) ?_)
  rintro e a' w' ⟨rfl, r⟩
  cases y with
  | norm => exact ⟨rfl, r⟩
  | ret => exact ⟨rfl, r⟩
  | exit i =>
    by_cases hi : i = id
    · subst hi
      simp only [Exit.inBlock, Ex.out, Ex.inBlock, if_true]
      exact ⟨trivial, r⟩
    · simp only [Exit.inBlock, Ex.out, Ex.inBlock, hi, if_false]
      exact ⟨trivial, r⟩
inductive Loops (E : Env) (sz : Nat) (k : Code) : (Nat → V) → Heap → Nat → Ex → (Nat → V) → Heap → Nat → Prop
  | last {t : Nat → V} {h : Heap} {n : Nat} {x : Ex} {t1 : Nat → V} {h1 : Heap} {n1 : Nat} (e : Exec E sz k t h n x t1 h1 n1) (hx : x ≠ .norm) : Loops E sz k t h n x t1 h1 n1
  | more {t : Nat → V} {h : Heap} {n : Nat} {x : Ex} {t1 : Nat → V} {h1 : Heap} {n1 : Nat} {t2 : Nat → V} {h2 : Heap} {n2 : Nat} (e : Exec E sz k t h n .norm t1 h1 n1) (r : Loops E sz k t1 h1 n1 x t2 h2 n2) : Loops E sz k t h n x t2 h2 n2
theorem V5 {P : Program} {k : Code} {Q Q' : Exit → Act → World → Prop} (hq : ∀ e a w, Q e a w → Q' e a w) : ∀ (m : Nat) (a : Act) (w : World), Code.rounds P k Q m a w → Code.rounds P k Q' m a w
  | 0, _, _, h => h
  | m + 1, a, w, h => by
    rw [rounds_succ] at h ⊢
    refine wp_mono h ?_
    intro e a' w' q
    cases e with
    | normal => exact V5 hq m a' w' q
    | _ => exact hq _ _ _ q
theorem Loops.le {k : Code} {t : Nat → V} {h : Heap} {n : Nat} {x : Ex} {t1 : Nat → V} {h1 : Heap} {n1 : Nat} (r : Loops E sz k t h n x t1 h1 n1) : n ≤ n1 := by
  induction r with
  | last e _ => exact e.1
  | more e _ ih => exact Nat.le_trans e.1 ih
theorem Exec.loop {k : Code} (r : Loops E sz k t h n x t1 h1 n1) : Exec E sz (.loop k) t h n x t1 h1 n1 := by
  refine ⟨r.le, fun c a hs hg hf => ?_⟩
  have key : ∀ {t : Nat → V} {h : Heap} {n : Nat} {x : Ex} {t1 : Nat → V} {h1 : Heap} {n1 : Nat}, Loops E sz k t h n x t1 h1 n1 → ∃ m, ∀ (c : Cx) (a : Act), Slots sz t c a → Good E c h → (∀ id, n ≤ id → c.ρ id = none) →
      Code.rounds E.P k (fun e a' w' => e = x.out ∧ ∃ c' : Cx, c'.w = w' ∧ Ext c c' ∧ Slots sz t1 c' a' ∧ Good E c' h1 ∧ ∀ id, c'.ρ id ≠ none → c.ρ id ≠ none ∨ (n ≤ id ∧ id < n1)) m a c.w := by
    intro t h n x t1 h1 n1 r
    induction r with
    | last e hx =>
      refine ⟨1, fun c a hs hg hf => ?_⟩
      rw [rounds_succ]
      refine wp_mono (e.2 c a hs hg hf) ?_
      rintro e a' w' ⟨rfl, r⟩
      rename_i y _ _ _
      cases y with
      | norm => exact absurd rfl hx
      | exit id => exact ⟨rfl, r⟩
      | ret => exact ⟨rfl, r⟩
    | more e r ih =>
      obtain ⟨m, hm⟩ := ih
      refine ⟨m + 1, fun c a hs hg hf => ?_⟩
      rw [rounds_succ]
      refine wp_mono (e.2 c a hs hg hf) ?_
      rintro e' a' w' ⟨rfl, c', rfl, hx, hs', hg', hf'⟩
      have := hm c' a' hs' hg' (V4 e.1 hf hf')
      refine V5 ?_ m _ _ this
      rintro e2 a2 w2 ⟨he, c2, hw, hx2, hs2, hg2, hd2⟩
      exact ⟨he, c2, hw, hx.trans hx2, hs2, hg2, dom_trans e.1 r.le hf' hd2⟩
  obtain ⟨m, hm⟩ := key r
  exact wp_loop_rounds m (hm c a hs hg hf)
theorem Exec.region {id : Nat} {ops : Array Oper} {es : List Ef} (r : Runs E sz ops ops.toList t h n es t1 h1 n1) : Exec E sz (.region id ops false) t h n .norm t1 h1 n1 := by
  refine ⟨r.le, fun c a hs hg hf => ?_⟩
  exact wp_region_list (r.seq c a hs hg hf fun c' a' hx hs' hg' hf' => ⟨rfl, c', rfl, hx, hs', hg', hf'⟩)
theorem Exec.draw {id : Nat} {ops : Array Oper} {es : List Ef} (bl : List Nat) (rs : List (Nat × Nat)) (hm : E.P.follows .mixedOrders = true) (hst : statOK ops bl = true) (r : Runs E sz ops ops.toList t h n es t1 h1 n1)
    (hres : residE ops.size bl es = rs) (hcl : ClearL es rs) : Exec E sz (.region id ops true) t h n .norm t1 h1 n1 := by
  refine ⟨r.le, fun c a hs hg hf => ?_⟩
  refine wp_region_any hm ?_
  have hx : Ext c { c with w := c.w.drew } := Ext.same c j4
  have hno : inS (Array.replicate ops.size false) = fun _ => false := by
    funext j; unfold inS
    by_cases hj : j < ops.size <;> simp [hj]
  have hT : foldT ((ops.toList.map (·.dst)).zip es) (inS (Array.replicate ops.size false)) t = t := by
    rw [hno]
    have : ∀ (l : List (Option Nat × Ef)) (t : Nat → V), foldT l (fun _ => false) t = t := by
      intro l; induction l with
      | nil => intro t; rfl
      | cons y l ih => intro t; obtain ⟨_, _⟩ := y; simp only [foldT]; exact ih t
    exact this _ _
  have hH : foldH ((ops.toList.map (·.dst)).zip es) (inS (Array.replicate ops.size false)) h = h := by
    rw [hno]
    have : ∀ (l : List (Option Nat × Ef)) (t : Heap), foldH l (fun _ => false) t = t := by
      intro l; induction l with
      | nil => intro t; rfl
      | cons y l ih => intro t; obtain ⟨_, _⟩ := y; simp only [foldH]; exact ih t
    exact this _ _
  exact draw_any bl rs hst r hres hcl { c with w := c.w.drew } hf (fun c' a' hx' hs' hg' hf' => ⟨rfl, c', rfl, hx.trans hx', hs', hg', hf'⟩) ops.size (Array.replicate ops.size false) { c with w := c.w.drew } a (by simp)
    (fun j hj => by rw [hno] at hj; cases hj) (Ext.refl _) (by rw [hT]; exact hs.mono hx) (by rw [hH]; exact hg.drew) (fun id hid => .inl hid) (by unfold unl; exact Nat.le_trans List.count_le_length (by simp))
end exec
end Go.V
namespace Go.V
open Go.RowKit (Below)
set_option linter.unusedSimpArgs false
set_option linter.unusedVariables false
inductive A where
  | one (x : T)
  | agg (xs : List T)
def A.toV (fr : Bool) : A → V
  | .one x => x.toV fr
  | .agg xs => .agg (xs.map (T.toV fr))
def retV (fr : Bool) : List A → V
  | [a] => a.toV fr
  | az => .tup (az.map (A.toV fr))
inductive AR (I : Nat → Prop) (w : World) : A → Value → Prop
  | one (x : T) (v : Value) (h : TR I w x v) : AR I w (.one x) v
  | agg (xs : List T) (vs : Array Value) (hl : xs.length = vs.size) (h : ∀ (i : Nat) (x : T) (v : Value), xs[i]? = some x → vs[i]? = some v → TR I w x v) : AR I w (.agg xs) (.agg vs)
inductive RR (I : Nat → Prop) (w : World) : List A → Value → Prop
  | one (a : A) (v : Value) (h : AR I w a v) : RR I w [a] v
  | tup (az : List A) (vs : Array Value) (hne : az.length ≠ 1) (hl : az.length = vs.size) (h : ∀ (i : Nat) (a : A) (v : Value), az[i]? = some a → vs[i]? = some v → AR I w a v) : RR I w az (.tuple vs)
theorem AR.toV {c : Cx} {fr : Bool} {a : A} {v : Value} (h : AR (c.J fr) c.w a v) : VR c (a.toV fr) v := by
  cases h with
  | one x v h => exact h.toV
  | agg xs vs hl h =>
    refine .agg _ _ (by simpa using hl) fun i x v h1 h2 => ?_
    rw [List.getElem?_map] at h1
    cases hx : xs[i]? with
    | none => simp [hx] at h1
    | some y =>
      simp only [hx, Option.map_some, Option.some.injEq] at h1
      subst h1
      exact (h i y v hx h2).toV
theorem AR.mono {I I' : Nat → Prop} {w w' : World} {x : A} {v : Value} (h : AR I w x v) (hi : ∀ b, I b → I' b) (hk : ∀ b, I b → w'.heap[b]? = w.heap[b]?) : AR I' w' x v := by
  cases h with
  | one x v h => exact .one x v (h.mono hi hk)
  | agg xs vs hl h => exact .agg xs vs hl fun i x v h1 h2 => (h i x v h1 h2).mono hi hk
theorem RR.mono {I I' : Nat → Prop} {w w' : World} {x : List A} {v : Value} (h : RR I w x v) (hi : ∀ b, I b → I' b) (hk : ∀ b, I b → w'.heap[b]? = w.heap[b]?) : RR I' w' x v := by
  cases h with
  | one a v h => exact .one a v (h.mono hi hk)
  | tup ms vs hne hl h => exact .tup _ vs hne hl fun i a v h1 h2 => (h i a v h1 h2).mono hi hk
theorem RR.toV {c : Cx} {fr : Bool} {ls : List A} {v : Value} (h : RR (c.J fr) c.w ls v) : VR c (retV fr ls) v := by
  cases h with
  | one a v h => exact h.toV
  | tup ms vs hne hl h =>
    have : retV fr ls = .tup (ls.map (A.toV fr)) := by
      unfold retV
      split
      · simp at hne
      · rfl
    rw [this]
    refine .tup _ _ (by simpa using hl) fun i x v h1 h2 => ?_
    rw [List.getElem?_map] at h1
    cases hx : ls[i]? with
    | none => simp [hx] at h1
    | some y =>
      simp only [hx, Option.map_some, Option.some.injEq] at h1
      subst h1
      exact (h i y v hx h2).toV
def callP (P : Program) (f : FuncId) : Bool :=
  match P.funcs[f]? with
  | some fn => fn.body.isSome && fn.name != "runtime.NumGoroutine"
  | none => false
theorem run_callFunc {P : Program} {w : World} {f : FuncId} (h : callP P f = true) (args : Array Value) : (callFunc f args).run P w = .ok (.enter f args) w := by
  unfold callP at h
  cases hf : P.funcs[f]? with
  | none => simp [hf] at h
  | some fn =>
    simp only [hf, Bool.and_eq_true, bne_iff_ne, ne_eq] at h
    obtain ⟨h1, h2⟩ := h
    have h3 : fn.body.isNone = false := by cases hb : fn.body <;> simp_all
    have h4 : fn.body ≠ none := by intro h; simp [h] at h1
    simp [callFunc, hf, h2, h3, h4]
def Pure (E : Env) (f : FuncId) (args res : List A) : Prop :=
  callP E.P f = true ∧ ∀ (I : Nat → Prop) (w : World) (vs : Array Value), (∀ b, I b → b < w.heap.size) →
    (∀ g cs, E.G g = some cs → VR ⟨fun _ => none, I, w.heap.size, w⟩ (.iptr false cs) (.pointer (some ⟨g, 0, none⟩))) →
    args.length = vs.size → (∀ (i : Nat) (a : A) (v : Value), args[i]? = some a → vs[i]? = some v → AR I w a v) →
    Calls E.P f vs w fun e w' => ∃ v, e = .returned v ∧ Below w.heap.size w w' ∧ RR (fun b => w.heap.size ≤ b ∧ b < w'.heap.size) w' res v
inductive Snap (h : Heap) (ids : List Nat) (r : Bool) : V → T → Prop
  | bool (b : Bool) : Snap h ids r (.bool b) (.bool b)
  | int (k : IntKind) (n : Int) : Snap h ids r (.int k n) (.int k n)
  | str (s : ByteArray) : Snap h ids r (.str s) (.str s)
  | nilp : Snap h ids r .nilp .nilp
  | nilf : Snap h ids r .nilf .nilf
  | nsl : Snap h ids r .nsl .nsl
  | sl (fr nn : Bool) (es : List (List T)) (hr : r = true → fr = true ∨ es = []) : Snap h ids r (.sl fr nn es) (.sl nn es)
  | nslW : Snap h ids r .nsl (.sl false [])
  | weak (x : V) (es : List (List T)) (hs : Snap h ids r x (.sl true es)) : Snap h ids r x (.sl false es)
  | view (id off len : Nat) (b : Blk) (es : List (List T)) (hid : id ∈ ids) (hb : h id = some b) (hle : off + len ≤ b.es.length) (hl : es.length = len)
      (hz : ∀ (i : Nat) (e : List V) (e' : List T), ((b.es.drop off).take len)[i]? = some e → es[i]? = some e' → e.length = e'.length)
      (hs : ∀ (i j : Nat) (x : V) (y : T), get2 ((b.es.drop off).take len) i j = some x → get2 es i j = some y → Snap h ids r x y) : Snap h ids r (.view id off len) (.sl true es)
theorem Snap.congr {h h2 : Heap} {ids : List Nat} {r : Bool} {x : V} {y : T} (hs : Snap h ids r x y) (he : ∀ id ∈ ids, h2 id = h id) : Snap h2 ids r x y := by
  induction hs with
  | bool b => exact .bool b
  | int k n => exact .int k n
  | str s => exact .str s
  | nilp => exact .nilp
  | nilf => exact .nilf
  | nsl => exact .nsl
  | nslW => exact .nslW
  | sl fr nn es hr => exact .sl fr nn es hr
  | weak x es hs ih => exact .weak x es ih
  | view id off len b es hid hb hle hl hz hs ih => exact .view id off len b es hid (by rw [he id hid]; exact hb) hle hl hz ih
def Seen (c : Cx) (h : Heap) (r : Bool) (b : Nat) : Prop := (c.I b ∨ ∃ id x p, h id = some x ∧ c.ρ id = some p ∧ p.b = b) ∧ (r = true → c.B ≤ b)
theorem Snap.ok {E : Env} {c : Cx} {h : Heap} (hg : Good E c h) {ids : List Nat} {r : Bool} {x : V} {y : T} (hs : Snap h ids r x y) : ∀ {v : Value}, VR c x v → TR (Seen c h r) c.w y v := by
  induction hs with
  | bool b => intro v hv; rw [hv.bool_inv]; exact .bool b
  | int k n => intro v hv; rw [hv.int_inv]; exact .int k n
  | str s => intro v hv; rw [hv.str_inv]; exact .str s
  | nilp => intro v hv; rw [hv.nilp_inv]; exact .nilp
  | nilf => intro v hv; rw [hv.nilf_inv]; exact .nilf
  | nsl => intro v hv; rw [hv.nsl_inv]; exact .nsl
  | nslW =>
    intro v hv; rw [hv.nsl_inv]
    exact .sl false [] none 0 0 0 (fun _ _ => undef) rfl (Nat.le_refl _) (fun _ => ⟨rfl, rfl, rfl⟩) (fun A hA => by cases hA) (by simp) (fun A _ _ _ hA => by cases hA) (fun i j c hc => by simp [get2] at hc)
  | weak x es hs ih =>
    intro v hv
    have := ih hv
    cases this with
    | sl _ _ a len cap sz rd hlen hcap hnil hI hsz hrd hsub => exact .sl false es a len cap sz rd hlen hcap (fun h => nomatch (hnil h).1) hI hsz hrd hsub
  | sl fr nn es hr =>
    intro v hv
    cases hv with
    | sl _ _ _ _ hv =>
      by_cases hes : es = []
      · subst hes
        cases hv with
        | sl _ _ a len cap sz rd hlen hcap hnil hI hsz hrd hsub => exact .sl nn [] a len cap sz rd hlen hcap hnil (fun A hA hne => absurd rfl hne) hsz hrd (fun i j c hc => by simp [get2] at hc)
      · refine hv.mono (fun b hb => ⟨.inl hb.1, fun hr' => ?_⟩) (fun _ _ => rfl)
        rcases hr hr' with h1 | h1
        · exact hb.2 h1
        · exact absurd h1 hes
  | view id off len b es hid hb hle hl hz hs ih =>
    intro v hv
    cases hv with
    | view _ _ _ p o cap hp ho hlc hpm =>
      obtain ⟨cells, fz, q2, q3, q4, q5, q6, q7, q8⟩ := hg.cells hb hp hpm
      have hdl : ((b.es.drop off).take len).length = len := by simp; omega
      by_cases hlen0 : len = 0
      · subst hlen0
        have : es = [] := List.eq_nil_of_length_eq_zero hl
        subst this
        exact .sl true [] _ _ _ 0 (fun _ _ => undef) rfl hlc (fun h => by cases h) (fun A hA hne => absurd rfl hne) (by simp) (fun A i j c hA hc => by simp [get2] at hc) (fun i j c hc => by simp [get2] at hc)
      · obtain ⟨e1, e2⟩ := ho.resolve_left (by omega)
        have hget : ∀ i j y, get2 es i j = some y → ∃ x u, get2 ((b.es.drop off).take len) i j = some x ∧ cells[o + i * p.sz + j]? = some u ∧ VR c x u := by
          intro i j y hy
          unfold get2 at hy
          cases hi : es[i]? with
          | none => simp [hi] at hy
          | some e' =>
            simp only [hi, Option.bind_some] at hy
            have hil : i < len := by rw [← hl]; exact (List.getElem?_eq_some_iff.1 hi).1
            have hlt : off + i < b.es.length := by omega
            have he : ((b.es.drop off).take len)[i]? = some b.es[off + i] := by
              rw [List.getElem?_take_of_lt hil, List.getElem?_drop]; simp [hlt]
            have hjl : j < (b.es[off + i]).length := by
              rw [hz i _ e' he hi]; exact (List.getElem?_eq_some_iff.1 hy).1
            have hx : get2 ((b.es.drop off).take len) i j = some (b.es[off + i])[j] := by simp [get2, he, hjl]
            obtain ⟨u, g1, g2, g3⟩ := q8 (off + i) j (b.es[off + i])[j] (by simp [get2, hlt, hjl])
            refine ⟨_, u, hx, ?_, g2⟩
            rw [← g1, e1, q2]
            congr 1
            rw [Nat.add_mul]; omega
        refine .sl true es _ _ _ p.sz (fun i j => (cells[o + i * p.sz + j]?).getD undef) hl.symm hlc (fun h => by cases h) (fun A hA hne => ?_) (fun e' he' => ?_) (fun A i j y hA hy => ?_) (fun i j y hy => ?_)
        · simp only [Option.some.injEq] at hA
          subst hA
          exact ⟨rfl, .inr ⟨id, b, p, hb, hp, rfl⟩, fun _ => (hg.own id p hp).1⟩
        · obtain ⟨i, hi⟩ := List.getElem?_of_mem he'
          have hil : i < len := by rw [← hl]; exact (List.getElem?_eq_some_iff.1 hi).1
          have hlt : off + i < b.es.length := by omega
          have he : ((b.es.drop off).take len)[i]? = some b.es[off + i] := by
            rw [List.getElem?_take_of_lt hil, List.getElem?_drop]; simp [hlt]
          rw [← hz i _ e' he hi, q7 _ (List.getElem_mem hlt), q2]
        · simp only [Option.some.injEq] at hA
          subst hA
          obtain ⟨x, u, g1, g2, g3⟩ := hget i j y hy
          simp [World.cell?, q3, g2]
        · obtain ⟨x, u, g1, g2, g3⟩ := hget i j y hy
          rw [g2]
          exact ih i j x y g1 hy g3
inductive SnapA (h : Heap) (ids : List Nat) (r : Bool) : V → A → Prop
  | one (x : V) (y : T) (hs : Snap h ids r x y) : SnapA h ids r x (.one y)
  | agg (xs : List V) (ys : List T) (hl : xs.length = ys.length) (hs : ∀ (i : Nat) (x : V) (y : T), xs[i]? = some x → ys[i]? = some y → Snap h ids r x y) : SnapA h ids r (.agg xs) (.agg ys)
theorem SnapA.congr {h h2 : Heap} {ids : List Nat} {r : Bool} {x : V} {y : A} (hs : SnapA h ids r x y) (he : ∀ id ∈ ids, h2 id = h id) : SnapA h2 ids r x y := by
  cases hs with
  | one x y hs => exact .one x y (hs.congr he)
  | agg xs ys hl hs => exact .agg xs ys hl fun i x y h1 h2 => (hs i x y h1 h2).congr he
theorem SnapA.ok {E : Env} {c : Cx} {h : Heap} (hg : Good E c h) {ids : List Nat} {r : Bool} {x : V} {y : A} (hs : SnapA h ids r x y) {v : Value} (hv : VR c x v) : AR (Seen c h r) c.w y v := by
  cases hs with
  | one x y hs => exact .one y v (hs.ok hg hv)
  | agg xs ys hl hs =>
    obtain ⟨vs, rfl, h1, h2⟩ := hv.agg_inv
    refine .agg ys vs (by omega) fun i y v hy hv => ?_
    have hlt : i < xs.length := by rw [hl]; exact (List.getElem?_eq_some_iff.1 hy).1
    exact (hs i xs[i] y (by simp [hlt]) hy).ok hg (h2 i _ v (by simp [hlt]) hv)
def calleeV (E : Env) (t : Nat → V) (f : Operand) : Option (FuncId × List V) :=
  match E.eval t f with
  | .clo g caps => some (g, caps)
  | _ => none
section ops
variable {E : Env} {o : Oper} {t : Nat → V} {h : Heap} {n : Nat}
theorem Z7 {c : Cx} {a : Act} {fo : Operand} {args : Array Operand} {tys : Array TypeId} {f : FuncId} {caps : List V} (ho : o.op = .call { callee := .value fo, args := args, argTypes := tys }) (hc : E.eval t fo = .clo f caps)
    (hx : ∀ x ∈ o.op.operands, VR c (E.eval t x) (a.eval x)) (hp : callP E.P f = true) :
    ∃ cs : Array Value, (execOp a.eval o).run E.P c.w = .ok (.enter f (args.map a.eval ++ cs)) c.w ∧ caps.length = cs.size ∧ ∀ (i : Nat) (x : V) (v : Value), caps[i]? = some x → cs[i]? = some v → VR c x v := by
  have h1 := hx fo (by simp [ho, Op.operands, Call.operands])
  rw [hc] at h1
  generalize hw : a.eval fo = w at h1
  cases h1 with
  | clo _ _ vs hl hh =>
    refine ⟨vs, ?_, hl, hh⟩
    simp [execOp, ho, hw, resolve, Deferred.ofValue, invoke, run_callFunc hp]
theorem op_call {fo : Operand} {args : Array Operand} {tys : Array TypeId} {f : FuncId} {ids : List Nat} {az rs : List A} (ho : o.op = .call { callee := .value fo, args := args, argTypes := tys }) (hc : E.eval t fo = .clo f [])
    (hl : args.size = az.length) (hs : ∀ (i : Nat) (x : Operand) (a : A), args[i]? = some x → az[i]? = some a → SnapA h ids false (E.eval t x) a) (hpure : Pure E f az rs) :
    OpOK E o t h n ids false (retV true rs) [] n := by
  intro c a h2 K Q hd hx hg hrd _ hf hK
  obtain ⟨cs, hrun, hcl, _⟩ := Z7 ho hc hx hpure.1
  have hcs : cs = #[] := by
    have : cs.size = 0 := by simpa using hcl.symm
    exact Array.eq_empty_of_size_eq_zero this
  subst hcs
  simp only [Array.append_empty] at hrun
  unfold Oper.wp
  rw [hrun, Oper.upon_enter]
  have hlive : ∀ b, Seen c h2 false b → b < c.w.heap.size := by
    rintro b ⟨h1 | ⟨id, x, p, _, h4, rfl⟩, _⟩
    · exact hg.imm b h1
    · exact (hg.own id p h4).2
  refine Calls.mono (hpure.2 (Seen c h2 false) c.w (args.map a.eval) hlive (fun g cs hgc => ?_) (by simp [hl]) (fun i a' v ha hv => ?_)) ?_
  · have := hg.glob g cs hgc
    cases this with
    | iptr _ _ b off rd hI hrd' hsub =>
      refine .iptr false cs g 0 rd ⟨⟨.inl hI.1, by simp⟩, by simp⟩ hrd' fun j x hj => (hsub j x hj).mono (fun b hb => ⟨⟨.inl hb.1, by simp⟩, by simp⟩) fun _ _ => rfl
  · rw [Array.getElem?_map] at hv
    cases hx' : args[i]? with
    | none => simp [hx'] at hv
    | some x =>
      simp only [hx', Option.map_some, Option.some.injEq] at hv
      subst hv
      exact ((hs i x a' hx' ha).congr hrd).ok hg (hx x (by simp [ho, Op.operands, Call.operands]; exact .inr (Array.mem_of_getElem? hx')))
  · rintro e w' ⟨v, rfl, hb, hr⟩
    have hlt : ∀ k, k < c.w.heap.size → w'.heap[k]? = c.w.heap[k]? := fun k hk => hb.block k hk
    have hx2 : Ext c { c with I := fun b => c.I b ∨ (c.w.heap.size ≤ b ∧ b < w'.heap.size), w := w' } :=
      ⟨rfl, fun _ _ h => h, fun b h => .inl h, fun b hb' => hlt b (hg.imm b hb'), hb.mono hg.base⟩
    refine hK { c with I := fun b => c.I b ∨ (c.w.heap.size ≤ b ∧ b < w'.heap.size), w := w' } v hx2 ?_ (fun id h => .inl h) ?_
    · show Good E _ (app [] h2)
      refine ⟨fun id b hb' => ?_, hg.inj, fun b hb' => ?_, fun id b p hb' hp' hI => ?_, fun id p hp' => ?_, Nat.le_trans hg.base hb.size, fun g cs hgc => (hg.glob g cs hgc).mono hx2⟩
      · obtain ⟨p, q1, q2, q3⟩ := hg.blk id b hb'
        have hk : w'.heap[p.b]? = c.w.heap[p.b]? := hlt _ (hg.own id p q1).2
        exact ⟨p, q1, fun hm => (q2 hm).mono hx2 hk, fun hm => (q3 hm).mono hx2 hk⟩
      · have := hb.size
        rcases hb' with h1 | h1
        · have := hg.imm b h1; simp only; omega
        · exact h1.2
      · rcases hI with h1 | h1
        · exact hg.sep id b p hb' hp' h1
        · have := (hg.own id p hp').2; omega
      · have := hg.own id p hp'
        have := hb.size
        simp only; omega
    · refine (hr.mono (fun b hb' => ?_) (fun _ _ => rfl)).toV
      exact ⟨.inr hb', fun _ => Nat.le_trans hg.base hb'.1⟩
end ops
inductive ResV (P : Program) (t : Nat → V) (h : Heap) : ResultVar → V → Prop
  | tmp (i : Nat) : ResV P t h (.tmp i) (t i)
  | row (a : Nat) (ty : TypeId) (id i j k : Nat) (b : Blk) (cs : List V) (ha : t a = .ptr id i j) (hb : h id = some b) (hi : b.es[i]? = some cs) (hr : rowP P ty = some (true, k)) (hl : j + k ≤ cs.length) :
      ResV P t h (.cell a ty) (.agg ((cs.drop j).take k))
  | cell (a : Nat) (ty : TypeId) (id i j k : Nat) (b : Blk) (cs : List V) (v : V) (ha : t a = .ptr id i j) (hb : h id = some b) (hi : b.es[i]? = some cs) (hr : rowP P ty = some (false, k)) (hl : cs[j]? = some v) :
      ResV P t h (.cell a ty) v
def resOne (tmps : Array Value) : ResultVar → Sem Value
  | .tmp t => pure (tmps.getD t undef)
  | .cell p ty => do loadVar ty (← asAddr (tmps.getD p undef))
theorem results_eq (fn : Func) (tmps : Array Value) : results fn tmps = (do let vs ← fn.results.mapM (resOne tmps); pure (if h : vs.size = 1 then vs[0] else .tuple vs)) := by
  have : (fun r => match r with | .tmp t => (pure (tmps.getD t undef) : Sem Value) | .cell a t => do loadVar t (← asAddr (tmps.getD a undef))) = resOne tmps := by
    funext r; cases r <;> rfl
  rw [← this]
  rfl
theorem ResV.run {E : Env} {c : Cx} {h : Heap} (hg : Good E c h) {sz : Nat} {t : Nat → V} {a : Act} (hs : Slots sz t c a) {r : ResultVar} {x : V} (hr : ResV E.P t h r x) :
    ∃ v, (resOne a.tmps r).run E.P c.w = .ok v c.w ∧ VR c x v := by
  cases hr with
  | tmp i => exact ⟨_, rfl, hs.tmps i⟩
  | row p ty id i j k b cs ha hb hi hr hl =>
    have h1 := hs.tmps p
    rw [ha] at h1
    obtain ⟨pl, ⟨hp, hpm⟩, hv⟩ := h1.ptr_inv
    obtain ⟨d, hu, hd, hs'⟩ := F3 hr
    obtain ⟨vs, hvl, hrange, hvr, _⟩ := hg.range hb hp hpm hi j k hl
    refine ⟨.agg vs.toArray, ?_, .agg _ _ (by simp [hvl]; omega) fun m y u h3 h4 => hvr m y u h3 (by simpa using h4)⟩
    have := run_loadVar_mid (P := E.P) c.w pl.b (pl.o + i * pl.sz + j) ty vs d hrange hu hd (by rw [hs', hvl])
    simp [resOne, hv, asAddr, this]
  | cell p ty id i j k b cs v ha hb hi hr hl =>
    have h1 := hs.tmps p
    rw [ha] at h1
    obtain ⟨pl, ⟨hp, hpm⟩, hv⟩ := h1.ptr_inv
    obtain ⟨d, hu, hd, hs'⟩ := F3 hr
    have hlt : j + 1 ≤ cs.length := (List.getElem?_eq_some_iff.1 hl).1
    obtain ⟨vs, hvl, hrange, hvr, _⟩ := hg.range hb hp hpm hi j 1 hlt
    have hlt' : 0 < vs.length := by omega
    refine ⟨vs[0], ?_, hvr 0 x _ ?_ (by simp [hlt'])⟩
    · have := I7 (P := E.P) (w := c.w) (b := pl.b) (o := pl.o + i * pl.sz + j) (v := vs[0]) hu hd (by have := hrange 0 vs[0] (by simp [hlt']); simpa using this)
      simp only [Instr.loadAt, Instr.sureAddr, Sem.run_bind, Sem.run_pure, Result.andThen_ok] at this
      simp only [resOne, hv, asAddr, Sem.run_bind, Sem.run_pure, Result.andThen_ok, this]
    · rw [List.getElem?_take_of_lt (by omega), List.getElem?_drop]; simpa using hl
inductive ResL (P : Program) (t : Nat → V) (h : Heap) : List ResultVar → List V → Prop
  | nil : ResL P t h [] []
  | cons (r : ResultVar) (rs : List ResultVar) (x : V) (xs : List V) (h1 : ResV P t h r x) (h2 : ResL P t h rs xs) : ResL P t h (r :: rs) (x :: xs)
theorem ResL.run {E : Env} {c : Cx} {h : Heap} (hg : Good E c h) {sz : Nat} {t : Nat → V} {a : Act} (hs : Slots sz t c a) {rs : List ResultVar} {xs : List V} (hr : ResL E.P t h rs xs) :
    ∃ vs : List Value, (rs.mapM (resOne a.tmps)).run E.P c.w = .ok vs c.w ∧ xs.length = vs.length ∧
      ∀ (i : Nat) (x : V) (v : Value), xs[i]? = some x → vs[i]? = some v → VR c x v := by
  induction hr with
  | nil => exact ⟨[], by simp, rfl, by simp⟩
  | cons r rs x xs h1 h2 ih =>
    obtain ⟨v, g1, g2⟩ := h1.run hg hs
    obtain ⟨vs, g3, g4, g5⟩ := ih
    refine ⟨v :: vs, ?_, by simp [g4], fun i y u hy hu => ?_⟩
    · rw [List.mapM_cons]
      simp only [Sem.run_bind]
      rw [g1]
      simp only [Result.andThen_ok, g3, Sem.run_pure]
    · cases i with
      | zero =>
        simp only [List.getElem?_cons_zero, Option.some.injEq] at hy hu
        subst hy; subst hu; exact g2
      | succ i => exact g5 i y u (by simpa using hy) (by simpa using hu)
theorem V6 {E : Env} {c : Cx} {h : Heap} (hg : Good E c h) {sz : Nat} {t : Nat → V} {a : Act} (hs : Slots sz t c a) {fn : Func} {xs : List V} (hr : ResL E.P t h fn.results.toList xs) :
    ∃ vs : List Value, (results fn a.tmps).run E.P c.w = .ok (if h : vs.toArray.size = 1 then vs.toArray[0] else .tuple vs.toArray) c.w ∧ xs.length = vs.length ∧
      ∀ (i : Nat) (x : V) (v : Value), xs[i]? = some x → vs[i]? = some v → VR c x v := by
  obtain ⟨vs, h1, h2, h3⟩ := hr.run hg hs
  refine ⟨vs, ?_, h2, h3⟩
  rw [results_eq, Sem.run_bind, Array.mapM_eq_mapM_toList, Sem.run_map, h1]
  rfl
theorem Pure.of_exec {E : Env} {f : FuncId} {fn : Func} {k : Code} {args res : List A} {x : Ex} {t' : Nat → V} {h' : Heap} {n' : Nat} {xs : List V} {ids : List Nat} (hf : E.P.funcs[f]? = some fn) (hb : fn.body = some k) (hn : args.length ≤ fn.ntmps)
    (he : Exec E fn.ntmps k (fun i => ((args.map (A.toV false))[i]?).getD .unk) (fun _ => none) 0 x t' h' n') (hx : x = .norm ∨ x = .ret) (hr : ResL E.P t' h' fn.results.toList xs)
    (hl : xs.length = res.length) (hs : ∀ (i : Nat) (x : V) (a : A), xs[i]? = some x → res[i]? = some a → SnapA h' ids true x a) (hnm : (fn.name != "runtime.NumGoroutine") = true) : Pure E f args res := by
  refine ⟨by simp only [callP, hf, hb, hnm, Option.isSome_some, Bool.and_self], fun I w vs hI hgl hal har => ?_⟩
  refine calls_of_wp hf hb ?_
  let c0 : Cx := ⟨fun _ => none, I, w.heap.size, w⟩
  have hg0 : Good E c0 (fun _ => none) := ⟨fun id b h => by simp at h, fun id id' b b' p p' h => by simp at h, hI, fun id b p h => by simp at h, fun id p h => by simp [c0] at h, Nat.le_refl _, hgl⟩
  have hs0 : Slots fn.ntmps (fun i => ((args.map (A.toV false))[i]?).getD .unk) c0 { tmps := vs ++ Array.replicate (fn.ntmps - vs.size) undef, defers := [] } := by
    refine ⟨by simp; omega, fun i => ?_, rfl⟩
    by_cases hi : i < args.length
    · have hiv : i < vs.size := by omega
      have h1 : (vs ++ Array.replicate (fn.ntmps - vs.size) undef).getD i undef = vs[i] := by
        simp [Array.getElem?_append_left hiv, hiv]
      rw [h1]
      have h2 : ((args.map (A.toV false))[i]?).getD .unk = args[i].toV false := by simp [hi]
      rw [h2]
      refine (AR.mono (har i args[i] vs[i] (by simp [hi]) (by simp [hiv])) (fun b hb => ⟨hb, by simp⟩) (fun _ _ => rfl)).toV
    · have h2 : ((args.map (A.toV false))[i]?).getD .unk = .unk := by simp [hi]
      rw [h2]; exact .unk _
  refine wp_mono (he.2 c0 _ hs0 hg0 (fun _ _ => rfl)) ?_
  rintro e a' w' ⟨rfl, c', rfl, hxt, hs', hg', hd'⟩
  obtain ⟨us, h1, h2, h3⟩ := V6 hg' hs' hr
  have hB : c'.B = w.heap.size := hxt.B
  have hlive : ∀ b, Seen c' h' true b → w.heap.size ≤ b ∧ b < c'.w.heap.size := by
    rintro b ⟨h4 | ⟨id, y, p, _, h5, rfl⟩, h6⟩
    · exact ⟨by have := h6 rfl; omega, hg'.imm b h4⟩
    · exact ⟨by have := h6 rfl; omega, (hg'.own id p h5).2⟩
  have hbelow : Below w.heap.size w c'.w := hxt.below
  have key : RR (fun b => w.heap.size ≤ b ∧ b < c'.w.heap.size) c'.w res (if h : us.toArray.size = 1 then us.toArray[0] else .tuple us.toArray) := by
    have hulen : us.length = res.length := by omega
    have hone : ∀ (i : Nat) (a : A) (v : Value), res[i]? = some a → us[i]? = some v → AR (fun b => w.heap.size ≤ b ∧ b < c'.w.heap.size) c'.w a v := by
      intro i a v ha hv
      have hlt : i < xs.length := by rw [hl]; exact (List.getElem?_eq_some_iff.1 ha).1
      exact ((hs i xs[i] a (by simp [hlt]) ha).ok hg' (h3 i xs[i] v (by simp [hlt]) hv)).mono hlive (fun _ _ => rfl)
    split
    · rename_i hsz
      have hul : us.length = 1 := by simpa using hsz
      have hrl : res.length = 1 := by omega
      match res, us, hrl, hul, hone with
      | [a], [u], _, _, hone => exact .one a u (hone 0 a u rfl rfl)
    · rename_i hsz
      refine .tup res _ (by simp at hsz; omega) (by simp; omega) fun i a v ha hv => hone i a v ha (by simpa using hv)
  rcases hx with rfl | rfl
  · exact ⟨hs'.defers, _, h1, _, rfl, hbelow, key⟩
  · exact ⟨hs'.defers, _, h1, _, rfl, hbelow, key⟩
attribute [irreducible] Pure
end Go.V
namespace Go.V
open Go.RowKit (Below)
set_option linter.unusedSimpArgs false
set_option linter.unusedVariables false
abbrev Post := Ex → (Nat → V) → Heap → Nat → Prop
def WP (E : Env) (sz : Nat) (k : Code) (t : Nat → V) (h : Heap) (n : Nat) (Q : Post) : Prop := ∃ x t' h' n', Exec E sz k t h n x t' h' n' ∧ Q x t' h' n'
def WR (E : Env) (sz : Nat) (ops : Array Oper) (l : List Oper) (t : Nat → V) (h : Heap) (n : Nat) (Q : (Nat → V) → Heap → Nat → Prop) : Prop := ∃ es t' h' n', Runs E sz ops l t h n es t' h' n' ∧ Q t' h' n'
def WD (E : Env) (sz : Nat) (ops : Array Oper) (bl : List Nat) (pre : List Ef) (l : List Oper) (t : Nat → V) (h : Heap) (n : Nat) (Q : (Nat → V) → Heap → Nat → Prop) : Prop :=
  ∃ es t' h' n', Runs E sz ops l t h n es t' h' n' ∧ ClearL (pre.reverse ++ es) (residE ops.size bl (pre.reverse ++ es)) ∧ Q t' h' n'
def seqQ (E : Env) (sz : Nat) (k : Code) (Q : Post) : Post
  | .norm, t, h, n => WP E sz k t h n Q
  | x, t, h, n => Q x t h n
def blockQ (id : Nat) (Q : Post) : Post
  | .exit i, t, h, n => if i = id then Q .norm t h n else Q (.exit i) t h n
  | x, t, h, n => Q x t h n
def WL (E : Env) (sz : Nat) (k : Code) (t : Nat → V) (h : Heap) (n : Nat) (Q : Post) : Prop := ∃ x t' h' n', Loops E sz k t h n x t' h' n' ∧ Q x t' h' n'
def loopQ (E : Env) (sz : Nat) (k : Code) (Q : Post) : Post
  | .norm, t, h, n => WL E sz k t h n Q
  | x, t, h, n => Q x t h n
section rules
variable {E : Env} {sz : Nat} {t : Nat → V} {h : Heap} {n : Nat} {Q : Post} {ops : Array Oper} {l : List Oper} {o : Oper} {bl : List Nat} {pre : List Ef} {R : (Nat → V) → Heap → Nat → Prop}
theorem WP.mono {k : Code} {Q' : Post} (w : WP E sz k t h n Q) (hq : ∀ x t h n, Q x t h n → Q' x t h n) : WP E sz k t h n Q' :=
  let ⟨x, t', h', n', e, q⟩ := w; ⟨x, t', h', n', e, hq _ _ _ _ q⟩
theorem wSkip (q : Q .norm t h n) : WP E sz .skip t h n Q := ⟨_, _, _, _, Exec.skip, q⟩
theorem wRet (q : Q .ret t h n) : WP E sz .ret t h n Q := ⟨_, _, _, _, Exec.ret, q⟩
theorem wExit {id : Nat} (q : Q (.exit id) t h n) : WP E sz (.exit id) t h n Q := ⟨_, _, _, _, Exec.exit id, q⟩
theorem wSeq {k1 k2 : Code} (w : WP E sz k1 t h n (seqQ E sz k2 Q)) : WP E sz (.seq k1 k2) t h n Q := by
  obtain ⟨x, t', h', n', e, q⟩ := w
  cases x with
  | norm =>
    obtain ⟨x2, t2, h2, n2, e2, q2⟩ := q
    exact ⟨x2, t2, h2, n2, e.seq e2, q2⟩
  | exit id => exact ⟨_, _, _, _, e.seq_out (by simp), q⟩
  | ret => exact ⟨_, _, _, _, e.seq_out (by simp), q⟩
theorem qSeq {k : Code} (w : WP E sz k t h n Q) : seqQ E sz k Q .norm t h n := w
theorem qSeqR {k : Code} (w : Q .ret t h n) : seqQ E sz k Q .ret t h n := w
theorem qSeqX {k : Code} {id : Nat} (w : Q (.exit id) t h n) : seqQ E sz k Q (.exit id) t h n := w
theorem wT {c : Operand} {k1 k2 : Code} (hb : E.eval t c = .bool true) (w : WP E sz k1 t h n Q) : WP E sz (.cond c k1 k2) t h n Q :=
  let ⟨x, t', h', n', e, q⟩ := w; ⟨x, t', h', n', e.cond_t hb, q⟩
theorem wF {c : Operand} {k1 k2 : Code} (hb : E.eval t c = .bool false) (w : WP E sz k2 t h n Q) : WP E sz (.cond c k1 k2) t h n Q :=
  let ⟨x, t', h', n', e, q⟩ := w; ⟨x, t', h', n', e.cond_f hb, q⟩
theorem wBlock {id : Nat} {k : Code} (w : WP E sz k t h n (blockQ id Q)) : WP E sz (.block id k) t h n Q := by
  obtain ⟨x, t', h', n', e, q⟩ := w
  cases x with
  | norm => exact ⟨.norm, _, _, _, e.block rfl, q⟩
  | ret => exact ⟨.ret, _, _, _, e.block rfl, q⟩
  | exit i =>
    by_cases hi : i = id
    · simp only [blockQ, hi, if_true] at q
      exact ⟨.norm, _, _, _, e.block (by simp [Ex.inBlock, hi]), q⟩
    · simp only [blockQ, hi, if_false] at q
      exact ⟨.exit i, _, _, _, e.block (by simp [Ex.inBlock, hi]), q⟩
theorem qBlock {id : Nat} (q : Q .norm t h n) : blockQ id Q .norm t h n := q
theorem qBlockR {id : Nat} (q : Q .ret t h n) : blockQ id Q .ret t h n := q
theorem qBlockX {id : Nat} (q : Q .norm t h n) : blockQ id Q (.exit id) t h n := by simp only [blockQ, if_true]; exact q
theorem qBlockY {id i : Nat} (hi : i ≠ id) (q : Q (.exit i) t h n) : blockQ id Q (.exit i) t h n := by simp only [blockQ, hi, if_false]; exact q
theorem wLoop {k : Code} (w : WL E sz k t h n Q) : WP E sz (.loop k) t h n Q :=
  let ⟨x, t', h', n', e, q⟩ := w; ⟨x, t', h', n', Exec.loop e, q⟩
theorem lStep {k : Code} (w : WP E sz k t h n (loopQ E sz k Q)) : WL E sz k t h n Q := by
  obtain ⟨x, t', h', n', e, q⟩ := w
  cases x with
  | norm =>
    obtain ⟨x2, t2, h2, n2, e2, q2⟩ := q
    exact ⟨x2, t2, h2, n2, .more e e2, q2⟩
  | exit id => exact ⟨_, _, _, _, .last e (by simp), q⟩
  | ret => exact ⟨_, _, _, _, .last e (by simp), q⟩
theorem qLoop {k : Code} (w : WL E sz k t h n Q) : loopQ E sz k Q .norm t h n := w
theorem qLoopR {k : Code} (q : Q .ret t h n) : loopQ E sz k Q .ret t h n := q
theorem qLoopX {k : Code} {id : Nat} (q : Q (.exit id) t h n) : loopQ E sz k Q (.exit id) t h n := q
theorem WL.mono {k : Code} {Q' : Post} (w : WL E sz k t h n Q) (hq : ∀ x t h n, Q x t h n → Q' x t h n) : WL E sz k t h n Q' :=
  let ⟨x, t', h', n', e, q⟩ := w; ⟨x, t', h', n', e, hq _ _ _ _ q⟩
theorem wRegion {id : Nat} {l : List Oper} (w : WR E sz l.toArray l t h n (Q .norm)) : WP E sz (.region id l.toArray false) t h n Q := by
  obtain ⟨es, t', h', n', r, q⟩ := w
  exact ⟨_, _, _, _, Exec.region (by simpa using r), q⟩
theorem wDraw {id : Nat} {l : List Oper} (bl : List Nat) (hm : E.P.follows .mixedOrders = true) (hst : statOK l.toArray bl = true) (w : WD E sz l.toArray bl [] l t h n (Q .norm)) : WP E sz (.region id l.toArray true) t h n Q := by
  obtain ⟨es, t', h', n', r, hc, q⟩ := w
  exact ⟨_, _, _, _, Exec.draw bl _ hm hst (by simpa using r) rfl (by simpa using hc), q⟩
theorem rNil (q : R t h n) : WR E sz ops [] t h n R := ⟨_, _, _, _, .nil t h n, q⟩
theorem rOp {rd : List Nat} {tot : Bool} {v : V} {wr : List (Nat × Option Blk)} {n1 : Nat} (hop : OpOK E o t h n rd tot v wr n1) (hd : dstOK sz o.dst = true) (hg : guardV ops t o = some true) (hn : n ≤ n1) (hz : wr = [] → tot = false → n = n1)
    (w : WR E sz ops l (updO t o.dst v) (app wr h) n1 R) : WR E sz ops (o :: l) t h n R := by
  obtain ⟨es, t', h', n', r, q⟩ := w
  exact ⟨_, _, _, _, .op o l t h n rd tot v wr n1 es t' h' n' hd hg hop hn hz r, q⟩
theorem rOpD {d : Nat} {rd : List Nat} {tot : Bool} {v : V} {wr : List (Nat × Option Blk)} {n1 : Nat} (hop : OpOK E o t h n rd tot v wr n1) (hdd : o.dst = some d) (hd : Nat.blt d sz = true) (hg : guardV ops t o = some true) (hn : n ≤ n1) (hz : wr = [] → tot = false → n = n1)
    (w : WR E sz ops l (upd t d v) (app wr h) n1 R) : WR E sz ops (o :: l) t h n R := rOp hop (by rw [hdd]; simpa [dstOK] using hd) hg hn hz (by rw [hdd]; exact w)
theorem r0 {rd : List Nat} {v : V} (hop : OpOK E o t h n rd false v [] n) {d : Nat} (hdd : o.dst = some d) (hd : Nat.blt d sz = true) (hg : guardV ops t o = some true)
    (w : WR E sz ops l (upd t d v) h n R) : WR E sz ops (o :: l) t h n R := rOpD hop hdd hd hg (Nat.le_refl _) (fun _ _ => rfl) w
theorem dNil (hc : ClearL pre.reverse (residE ops.size bl pre.reverse)) (q : R t h n) : WD E sz ops bl pre [] t h n R := ⟨[], _, _, _, .nil t h n, by simpa using hc, q⟩
theorem dOp {rd : List Nat} {tot : Bool} {v : V} {wr : List (Nat × Option Blk)} {n1 : Nat} (hop : OpOK E o t h n rd tot v wr n1) (hd : dstOK sz o.dst = true) (hg : guardV ops t o = some true) (hn : n ≤ n1) (hz : wr = [] → tot = false → n = n1)
    (w : WD E sz ops bl (⟨false, v, rd, tot, wr, n, n1⟩ :: pre) l (updO t o.dst v) (app wr h) n1 R) : WD E sz ops bl pre (o :: l) t h n R := by
  obtain ⟨es, t', h', n', r, hc, q⟩ := w
  exact ⟨_, _, _, _, .op o l t h n rd tot v wr n1 es t' h' n' hd hg hop hn hz r, by simpa using hc, q⟩
theorem dOpD {d : Nat} {rd : List Nat} {tot : Bool} {v : V} {wr : List (Nat × Option Blk)} {n1 : Nat} (hop : OpOK E o t h n rd tot v wr n1) (hdd : o.dst = some d) (hd : Nat.blt d sz = true) (hg : guardV ops t o = some true) (hn : n ≤ n1) (hz : wr = [] → tot = false → n = n1)
    (w : WD E sz ops bl (⟨false, v, rd, tot, wr, n, n1⟩ :: pre) l (upd t d v) (app wr h) n1 R) : WD E sz ops bl pre (o :: l) t h n R := dOp hop (by rw [hdd]; simpa [dstOK] using hd) hg hn hz (by rw [hdd]; exact w)
theorem d0 {rd : List Nat} {v : V} (hop : OpOK E o t h n rd false v [] n) {d : Nat} (hdd : o.dst = some d) (hd : Nat.blt d sz = true) (hg : guardV ops t o = some true)
    (w : WD E sz ops bl (⟨false, v, rd, false, [], n, n⟩ :: pre) l (upd t d v) h n R) : WD E sz ops bl pre (o :: l) t h n R := dOpD hop hdd hd hg (Nat.le_refl _) (fun _ _ => rfl) w
theorem OpOK.to {rd : List Nat} {tot : Bool} {v v' : V} {wr : List (Nat × Option Blk)} {n1 : Nat} (hop : OpOK E o t h n rd tot v wr n1) (e : v = v') : OpOK E o t h n rd tot v' wr n1 := e ▸ hop
theorem oPk {x y z : Operand} {k : Bool} {v : V} (ho : o.op = .pick x y z) (hc : E.eval t x = .bool k) (hv : pickV k (E.eval t y) (E.eval t z) = v) : OpOK E o t h n [] false v [] n := (op_pick ho hc).to hv
def FinOK (E : Env) (fn : Func) (res : List A) (x : Ex) (t : Nat → V) (h : Heap) (n : Nat) : Prop :=
  (x = .norm ∨ x = .ret) ∧ ∃ (xs : List V) (ids : List Nat), ResL E.P t h fn.results.toList xs ∧ xs.length = res.length ∧ ∀ (i : Nat) (x : V) (a : A), xs[i]? = some x → res[i]? = some a → SnapA h ids true x a
def resV (P : Program) (t : Nat → V) (h : Heap) : ResultVar → Option V
  | .tmp i => some (t i)
  | .cell a ty => match t a with
    | .ptr id i j => match h id with
      | some b => match b.es[i]? with
        | some cs => match rowP P ty with
          | some (true, k) => if j + k ≤ cs.length then some (.agg ((cs.drop j).take k)) else none
          | some (false, _) => cs[j]?
          | none => none
        | none => none
      | none => none
    | _ => none
def resL (P : Program) (t : Nat → V) (h : Heap) : List ResultVar → Option (List V)
  | [] => some []
  | r :: rs => match resV P t h r, resL P t h rs with
    | some x, some xs => some (x :: xs)
    | _, _ => none
theorem resV_ok {P : Program} {t : Nat → V} {h : Heap} {r : ResultVar} {x : V} (e : resV P t h r = some x) : ResV P t h r x := by
  cases r with
  | tmp i => simp only [resV, Option.some.injEq] at e; subst e; exact .tmp i
  | cell a ty =>
    simp only [resV] at e
    split at e
    · rename_i id i j ha
      split at e
      · rename_i b hb
        split at e
        · rename_i cs hi
          split at e
          · rename_i k hr
            split at e
            · rename_i hl
              simp only [Option.some.injEq] at e
              subst e
              exact .row _ _ id i j k b cs ha hb hi hr hl
            · cases e
          · rename_i k hr
            exact .cell _ _ id i j k b cs x ha hb hi hr e
          · cases e
        · cases e
      · cases e
    · cases e
theorem X1 {P : Program} {t : Nat → V} {h : Heap} : ∀ {rs : List ResultVar} {xs : List V}, resL P t h rs = some xs → ResL P t h rs xs
  | [], xs, e => by simp only [resL, Option.some.injEq] at e; subst e; exact .nil
  | r :: rs, xs, e => by
    unfold resL at e
    split at e
    · rename_i x ys h1 h2
      simp only [Option.some.injEq] at e
      subst e
      exact .cons r rs x ys (resV_ok h1) (X1 h2)
    · cases e
def cellT (r : Bool) : V → Option T
  | .bool b => some (.bool b)
  | .int k n => some (.int k n)
  | .str s => some (.str s)
  | .nilp => some .nilp
  | .nilf => some .nilf
  | .nsl => some .nsl
  | .sl fr nn es => if !r || fr then some (.sl nn es) else none
  | _ => none
def cellsT (r : Bool) : List V → Option (List T)
  | [] => some []
  | x :: xs => match cellT r x, cellsT r xs with
    | some y, some ys => some (y :: ys)
    | _, _ => none
def dataA (r : Bool) : V → Option A
  | .agg xs => (cellsT r xs).map .agg
  | x => (cellT r x).map .one
def dataL (r : Bool) : List V → Option (List A)
  | [] => some []
  | x :: xs => match dataA r x, dataL r xs with
    | some y, some ys => some (y :: ys)
    | _, _ => none
theorem cellT_ok {h : Heap} {ids : List Nat} {r : Bool} {x : V} {y : T} (e : cellT r x = some y) : Snap h ids r x y := by
  unfold cellT at e
  split at e <;> try (simp only [Option.some.injEq] at e; subst e; constructor; done)
  · rename_i fr nn es
    split at e
    · rename_i hc
      simp only [Option.some.injEq] at e; subst e
      refine .sl fr nn es fun hr => ?_
      subst hr
      simp at hc
      exact .inl hc
    · cases e
  · cases e
theorem cellsT_ok {h : Heap} {ids : List Nat} {r : Bool} : ∀ {xs : List V} {ys : List T}, cellsT r xs = some ys → xs.length = ys.length ∧ ∀ (i : Nat) (x : V) (y : T), xs[i]? = some x → ys[i]? = some y → Snap h ids r x y
  | [], ys, e => by simp only [cellsT, Option.some.injEq] at e; subst e; exact ⟨rfl, by simp⟩
  | x :: xs, ys, e => by
    unfold cellsT at e
    split at e
    · rename_i y zs h1 h2
      simp only [Option.some.injEq] at e
      subst e
      obtain ⟨g1, g2⟩ := cellsT_ok (h := h) (ids := ids) h2
      refine ⟨by simp [g1], fun i u v hu hv => ?_⟩
      cases i with
      | zero =>
        simp only [List.getElem?_cons_zero, Option.some.injEq] at hu hv
        subst hu; subst hv; exact cellT_ok h1
      | succ i => exact g2 i u v (by simpa using hu) (by simpa using hv)
    · cases e
theorem dataA_ok {h : Heap} {ids : List Nat} {r : Bool} {x : V} {a : A} (e : dataA r x = some a) : SnapA h ids r x a := by
  unfold dataA at e
  split at e
  · rename_i xs
    cases hc : cellsT r xs with
    | none => simp [hc] at e
    | some ys =>
      simp only [hc, Option.map_some, Option.some.injEq] at e
      subst e
      obtain ⟨g1, g2⟩ := cellsT_ok (h := h) (ids := ids) hc
      exact .agg xs ys g1 g2
  · cases hc : cellT r x with
    | none => simp [hc] at e
    | some y =>
      simp only [hc, Option.map_some, Option.some.injEq] at e
      subst e
      exact .one x y (cellT_ok hc)
theorem Z8 {h : Heap} {ids : List Nat} {r : Bool} : ∀ {xs : List V} {az : List A}, dataL r xs = some az → xs.length = az.length ∧ ∀ (i : Nat) (x : V) (a : A), xs[i]? = some x → az[i]? = some a → SnapA h ids r x a
  | [], ys, e => by simp only [dataL, Option.some.injEq] at e; subst e; exact ⟨rfl, by simp⟩
  | x :: xs, ys, e => by
    unfold dataL at e
    split at e
    · rename_i y zs h1 h2
      simp only [Option.some.injEq] at e
      subst e
      obtain ⟨g1, g2⟩ := Z8 (h := h) (ids := ids) h2
      refine ⟨by simp [g1], fun i u v hu hv => ?_⟩
      cases i with
      | zero =>
        simp only [List.getElem?_cons_zero, Option.some.injEq] at hu hv
        subst hu; subst hv; exact dataA_ok h1
      | succ i => exact g2 i u v (by simpa using hu) (by simpa using hv)
    · cases e
theorem fin {fn : Func} {res : List A} {x : Ex} {xs : List V} (hr : resL E.P t h fn.results.toList = some xs) (hd : dataL true xs = some res) (hx : x = .norm ∨ x = .ret := by first | exact .inl rfl | exact .inr rfl) : FinOK E fn res x t h n :=
  let g := Z8 (h := h) (ids := []) hd; ⟨hx, xs, [], X1 hr, g.1, g.2⟩
theorem Pure.of_wp {f : FuncId} {fn : Func} {k : Code} {args res : List A} (hf : E.P.funcs[f]? = some fn) (hb : fn.body = some k) (hn : args.length ≤ fn.ntmps)
    (w : WP E fn.ntmps k (fun i => ((args.map (A.toV false))[i]?).getD .unk) (fun _ => none) 0 (FinOK E fn res)) (hnm : (fn.name != "runtime.NumGoroutine") = true := by rfl) : Pure E f args res := by
  obtain ⟨x, t', h', n', e, hx, xs, ids, h1, h2, h3⟩ := w
  exact Pure.of_exec hf hb hn e hx h1 h2 h3 hnm
end rules
def Open (E : Env) (f : FuncId) (args : List V) (h : Heap) (n : Nat) (v : V) (wr : List (Nat × Option Blk)) (n' : Nat) : Prop :=
  (callP E.P f = true ∧ n ≤ n') ∧ ∀ (c : Cx) (vs : Array Value), Good E c h → (∀ id, n ≤ id → c.ρ id = none) → args.length = vs.size → (∀ (i : Nat) (x : V) (u : Value), args[i]? = some x → vs[i]? = some u → VR c x u) →
    Calls E.P f vs c.w fun e w' => ∃ u c', e = .returned u ∧ c'.w = w' ∧ Ext c c' ∧ Good E c' (app wr h) ∧ (∀ id, c'.ρ id ≠ none → c.ρ id ≠ none ∨ (n ≤ id ∧ id < n')) ∧ VR c' v u
theorem Good.less {E : Env} {c : Cx} {h h' : Heap} (hg : Good E c h) (hs : ∀ id b, h' id = some b → h id = some b) : Good E c h' :=
  ⟨fun k x hk => hg.blk k x (hs k x hk), fun k k' x x' r r' h1 h2 => hg.inj k k' x x' r r' (hs _ _ h1) (hs _ _ h2), hg.imm, fun k x r h1 => hg.sep k x r (hs _ _ h1), hg.own, hg.base, hg.glob⟩
def retX : List V → V
  | [x] => x
  | xs => .tup xs
def OpenFin (E : Env) (fn : Func) (v : V) (h : Heap) (n0 : Nat) (wr : List (Nat × Option Blk)) (m : Nat) (x : Ex) (t' : Nat → V) (h' : Heap) (n' : Nat) : Prop :=
  (x = .norm ∨ x = .ret) ∧ (∃ xs : List V, ResL E.P t' h' fn.results.toList xs ∧ retX xs = v) ∧ ((∀ i, n0 ≤ i → h i = none) → ∀ id b, app wr h id = some b → h' id = some b) ∧ n' ≤ m
theorem Open.of_wp {E : Env} {f : FuncId} {fn : Func} {k : Code} {args : List V} {h : Heap} {n m : Nat} {v : V} {wr : List (Nat × Option Blk)} (hf : E.P.funcs[f]? = some fn) (hb : fn.body = some k) (hn : args.length ≤ fn.ntmps)
    (w : WP E fn.ntmps k (fun i => (args[i]?).getD .unk) h n (OpenFin E fn v h n wr m)) (hnm : (fn.name != "runtime.NumGoroutine") = true := by rfl) : Open E f args h n v wr m := by
  obtain ⟨x, t', h', n', e, hx, ⟨xs, h1, rfl⟩, h2, hm⟩ := w
  refine ⟨⟨by simp only [callP, hf, hb, hnm, Option.isSome_some, Bool.and_self], Nat.le_trans e.1 hm⟩, fun c vs hg hfr hal har => ?_⟩
  refine calls_of_wp hf hb ?_
  have hs0 : Slots fn.ntmps (fun i => (args[i]?).getD .unk) c { tmps := vs ++ Array.replicate (fn.ntmps - vs.size) undef, defers := [] } := by
    refine ⟨by simp; omega, fun i => ?_, rfl⟩
    by_cases hi : i < args.length
    · have hiv : i < vs.size := by omega
      have h1 : (vs ++ Array.replicate (fn.ntmps - vs.size) undef).getD i undef = vs[i] := by
        simp [Array.getElem?_append_left hiv, hiv]
      rw [h1]
      have h2 : (args[i]?).getD .unk = args[i] := by simp [hi]
      rw [h2]
      exact har i args[i] vs[i] (by simp [hi]) (by simp [hiv])
    · have h2 : (args[i]?).getD .unk = .unk := by simp [hi]
      rw [h2]; exact .unk _
  refine wp_mono (e.2 c _ hs0 hg hfr) ?_
  rintro ee a' w' ⟨rfl, c', rfl, hxt, hs', hg', hd'⟩
  obtain ⟨us, g1, g2, g3⟩ := V6 hg' hs' h1
  have key : VR c' (retX xs) (if h : us.toArray.size = 1 then us.toArray[0] else .tuple us.toArray) := by
    split
    · rename_i hsz
      have hul : us.length = 1 := by simpa using hsz
      have hxl : xs.length = 1 := by omega
      match xs, us, hxl, hul, g3 with
      | [y], [u], _, _, g3 => exact g3 0 y u rfl rfl
    · rename_i hsz
      have : retX xs = .tup xs := by
        unfold retX
        split
        · simp at g2 hsz; omega
        · rfl
      rw [this]
      exact .tup _ _ (by simp; omega) fun i x v h1 h2 => g3 i x v h1 (by simpa using h2)
  have hpost : ∃ u c2, Ending.returned (if h : us.toArray.size = 1 then us.toArray[0] else .tuple us.toArray) = .returned u ∧ c2.w = c'.w ∧ Ext c c2 ∧ Good E c2 (app wr h) ∧ (∀ id, c2.ρ id ≠ none → c.ρ id ≠ none ∨ (n ≤ id ∧ id < m)) ∧ VR c2 (retX xs) u :=
    ⟨_, c', rfl, rfl, hxt, hg'.less (h2 fun i hi => by
      cases hh : h i with
      | none => rfl
      | some b =>
        obtain ⟨p, hp, _⟩ := hg.blk i b hh
        rw [hfr i hi] at hp; cases hp), fun id hid => (hd' id hid).imp (fun h => h) (fun h => ⟨h.1, by omega⟩), key⟩
  rcases hx with rfl | rfl
  · exact ⟨hs'.defers, _, g1, hpost⟩
  · exact ⟨hs'.defers, _, g1, hpost⟩
theorem finO {E : Env} {fn : Func} {v : V} {h h' : Heap} {n0 : Nat} {wr : List (Nat × Option Blk)} {m n' : Nat} {x : Ex} {t' : Nat → V} {xs : List V} (hr : resL E.P t' h' fn.results.toList = some xs) (hv : retX xs = v)
    (hs : (∀ i, n0 ≤ i → h i = none) → ∀ id b, app wr h id = some b → h' id = some b) (hm : n' ≤ m) (hx : x = .norm ∨ x = .ret := by first | exact .inl rfl | exact .inr rfl) : OpenFin E fn v h n0 wr m x t' h' n' := ⟨hx, ⟨xs, X1 hr, hv⟩, hs, hm⟩
theorem op_open {E : Env} {o : Oper} {t : Nat → V} {h : Heap} {n n' : Nat} {fo : Operand} {args : Array Operand} {tys : Array TypeId} {f : FuncId} {caps : List V} {v : V} {wr : List (Nat × Option Blk)}
    (ho : o.op = .call { callee := .value fo, args := args, argTypes := tys }) (hc : E.eval t fo = .clo f caps) (hop : Open E f (args.toList.map (E.eval t) ++ caps) h n v wr n') :
    OpOK E o t h n [] true v wr n' := by
  intro c a h2 K Q hd hx hg hrd htot hf hK
  obtain ⟨rfl, hfree⟩ := htot rfl
  obtain ⟨cs, hrun, hcl, hcr⟩ := Z7 ho hc hx hop.1.1
  unfold Oper.wp
  rw [hrun, Oper.upon_enter]
  refine Calls.mono (hop.2 c (args.map a.eval ++ cs) hg hfree (by simp [hcl]) (fun i x u h1 h2 => ?_)) ?_
  · by_cases hi : i < args.size
    · rw [List.getElem?_append_left (by simpa using hi), List.getElem?_map] at h1
      rw [Array.getElem?_append_left (by simpa using hi), Array.getElem?_map] at h2
      cases hx' : args[i]? with
      | none => simp [hx'] at h2
      | some y =>
        have hx2 : args.toList[i]? = some y := by simpa using hx'
        simp only [hx2, Option.map_some, Option.some.injEq] at h1
        simp only [hx', Option.map_some, Option.some.injEq] at h2
        subst h1; subst h2
        exact hx y (by simp [ho, Op.operands, Call.operands]; exact .inr (Array.mem_of_getElem? hx'))
    · rw [List.getElem?_append_right (by simp; omega)] at h1
      rw [Array.getElem?_append_right (by simp; omega)] at h2
      simp only [List.length_map, Array.length_toList] at h1
      simp only [Array.size_map] at h2
      exact hcr _ x u h1 h2
  · rintro e w' ⟨u, c', rfl, rfl, hx2, hg2, hd2, hv⟩
    exact hK c' u hx2 hg2 hd2 hv
theorem Open.le {E : Env} {f : FuncId} {args : List V} {h : Heap} {n : Nat} {v : V} {wr : List (Nat × Option Blk)} {n' : Nat} (ho : Open E f args h n v wr n') : n ≤ n' := ho.1.2
attribute [irreducible] WP WR WD WL Open seqQ blockQ loopQ
end Go.V
namespace Go.V
open Go.RowKit (Below)
set_option linter.unusedSimpArgs false
set_option linter.unusedVariables false
def arrP (P : Program) (ty : TypeId) : Option (Nat × TypeId × Nat) :=
  match P.underlying ty with
  | some (.array m e) => (P.info? e).map fun i => (m, e, i.size)
  | _ => none
theorem arrP_spec {P : Program} {ty e : TypeId} {m k : Nat} (h : arrP P ty = some (m, e, k)) : P.underlying ty = some (.array m e) ∧ ∃ i, P.info? e = some i ∧ i.size = k := by
  unfold arrP at h
  split at h
  · rename_i m' e' hu
    cases hi : P.info? e' with
    | none => simp [hi] at h
    | some i =>
      simp only [hi, Option.map_some, Option.some.injEq, Prod.mk.injEq] at h
      obtain ⟨rfl, rfl, rfl⟩ := h
      exact ⟨hu, i, hi, rfl⟩
  · cases h
section ops
variable {E : Env} {o : Oper} {t : Nat → V} {h : Heap} {n : Nat}
theorem S7 {P : Program} {w : World} {ty e : TypeId} {m s b off : Nat} {k : IntKind} {a : Int} (hs : arrP P ty = some (m, e, s)) (h0 : 0 ≤ a) (h1 : a < m) :
    (Instr.indexAt ty (.pointer (some ⟨b, off, none⟩)) (.int k a)).run P w = .ok (.pointer (some ⟨b, off + a.toNat * s, none⟩)) w := by
  obtain ⟨hu, i, hi, rfl⟩ := arrP_spec hs
  simp [Instr.indexAt, run_underlying hu, Instr.sureAddr, asIntOf, h0, h1, sizeOf, typeInfo, hi, Addr.add_mid]
theorem op_index_arr {ty e : TypeId} {x y : Operand} {k : IntKind} {a : Int} {i j m c s : Nat} (ho : o.op = .indexAddr ty x y) (hx : E.eval t x = .ptr i j m) (hy : E.eval t y = .int k a)
    (hs : arrP E.P ty = some (c, e, s)) (h0 : 0 ≤ a) (h1 : a < c) : OpOK E o t h n [] false (.ptr i j (m + a.toNat * s)) [] n :=
  OpOK.value fun cx ac h2 hx' hg hrd => by
    have g1 := hx' x (by simp [ho, Op.operands])
    have g2 := (by have := hx' y (by simp [ho, Op.operands]); rw [hy] at this; exact this.int_inv)
    rw [hx] at g1
    obtain ⟨p, ⟨hp, hm⟩, hv⟩ := g1.ptr_inv
    refine ⟨.pointer (some ⟨p.b, p.o + j * p.sz + (m + a.toNat * s), none⟩), ?_, .ptr _ _ _ _ hp hm⟩
    simp only [execOp, ho, hv, g2]
    simp [S7 hs h0 h1, Nat.add_assoc]
theorem Z9 {ty e : TypeId} {x y : Operand} {k : IntKind} {a : Int} {fr : Bool} {cs : List T} {c s : Nat} (ho : o.op = .indexAddr ty x y) (hx : E.eval t x = .iptr fr cs) (hy : E.eval t y = .int k a)
    (hs : arrP E.P ty = some (c, e, s)) (h0 : 0 ≤ a) (h1 : a < c) : OpOK E o t h n [] false (.iptr fr (cs.drop (a.toNat * s))) [] n :=
  OpOK.value fun cx ac h2 hx' hg hrd => by
    have g1 := hx' x (by simp [ho, Op.operands])
    have g2 := (by have := hx' y (by simp [ho, Op.operands]); rw [hy] at this; exact this.int_inv)
    rw [hx] at g1
    generalize hw : ac.eval x = w at g1
    cases g1 with
    | iptr _ _ b off rd hI hrd' hsub =>
      refine ⟨.pointer (some ⟨b, off + a.toNat * s, none⟩), ?_, .iptr fr _ b _ (fun j => rd (a.toNat * s + j)) hI (fun j x hj => ?_) (fun j x hj => ?_)⟩
      · simp only [execOp, ho, hw, g2]
        simp [S7 hs h0 h1]
      · rw [List.getElem?_drop] at hj
        rw [Nat.add_assoc]; exact hrd' _ x hj
      · rw [List.getElem?_drop] at hj
        exact hsub _ x hj
theorem op_index_agg {ty e : TypeId} {x y : Operand} {k : IntKind} {a : Int} {cs : List V} {v : V} {c s : Nat} {r : Bool} (ho : o.op = .index ty x y) (hx : E.eval t x = .agg cs) (hy : E.eval t y = .int k a)
    (hs : arrP E.P ty = some (c, e, s)) (hr : rowP E.P e = some (r, s)) (h0 : 0 ≤ a) (h1 : a < c) (hv : partV cs (a.toNat * s) s r = some v) (hl : a.toNat * s + s ≤ cs.length) : OpOK E o t h n [] false v [] n :=
  OpOK.value fun cx ac h2 hx' hg hrd => by
    have g1 := hx' x (by simp [ho, Op.operands])
    have g2 := (by have := hx' y (by simp [ho, Op.operands]); rw [hy] at this; exact this.int_inv)
    rw [hx] at g1
    obtain ⟨vs, hv', hsz, hget⟩ := g1.agg_inv
    obtain ⟨hu, i, hi, rfl⟩ := arrP_spec hs
    obtain ⟨u, hu1, hu2⟩ := part_ok hsz hget hr hv hl
    refine ⟨u, ?_, hu2⟩
    simp [execOp, ho, hv', g2, Instr.index, asIntOf, run_underlying hu, h0, h1, sizeOf, typeInfo, hi, hu1]
def scalV : V → Option Value
  | .bool b => some (.bool b)
  | .int k n => some (.int k n)
  | .str s => some (.string s)
  | _ => none
def scalL : List V → Option (List Value)
  | [] => some []
  | x :: r => match scalV x, scalL r with
    | some v, some vs => some (v :: vs)
    | _, _ => none
def V.val : V → Option Value
  | .agg cs => (scalL cs).map fun vs => .agg vs.toArray
  | x => scalV x
def mapP (P : Program) (ty : TypeId) : Option (TypeId × TypeId) :=
  match P.underlying ty with
  | some (.map k e) => some (k, e)
  | _ => none
def KeyOK (P : Program) (kt : TypeId) (k : V) : Prop := ∃ v l, k.val = some v ∧ keyOf P kt v = some l
def KeysOK (P : Program) (kt : TypeId) (es : List (List V)) : Prop := ∀ (i : Nat) (row : List V), es[i]? = some row → ∃ k x, row = [k, x] ∧ KeyOK P kt k
theorem VR.map_inv {c : Cx} {id : Nat} {v : Value} (h : VR c (.map id) v) : ∃ p, (c.ρ id = some p ∧ p.m = true) ∧ v = .map (some p.b) := by
  cases h with | map _ p hp hm => exact ⟨p, ⟨hp, hm⟩, rfl⟩
def zeroC (P : Program) (ty : TypeId) : Option Value := (P.info? ty).bind (·.zero)
def Cx.setMap (c : Cx) (p : Place) (o : Obj) : Cx := { c with w := { c.w with heap := c.w.heap.setIfInBounds p.b o } }
theorem Good.setMap {c : Cx} {h : Heap} (hg : Good E c h) {id : Nat} {b b' : Blk} {p : Place} {o : Obj} (hb : h id = some b) (hp : c.ρ id = some p) (hm : p.m = true)
    (hM : Ext c (c.setMap p o) → MapAt (c.setMap p o) p b') : Ext c (c.setMap p o) ∧ Good E (c.setMap p o) (upd h id (some b')) := by
  have hlt := (hg.own id p hp).2
  have hne : ∀ k, k ≠ p.b → (c.setMap p o).w.heap[k]? = c.w.heap[k]? := fun k hk => by
    simp [Cx.setMap, Array.getElem?_setIfInBounds_ne (Ne.symm hk)]
  have hsz : (c.setMap p o).w.heap.size = c.w.heap.size := by simp [Cx.setMap]
  have hx : Ext c (c.setMap p o) := by
    refine ⟨rfl, fun _ _ h => h, fun _ h => h, fun k hk => hne k (fun e => hg.sep id b p hb hp (e ▸ hk)), ⟨rfl, rfl, rfl, by rw [hsz]; exact Nat.le_refl _, fun k hk => hne k (fun e => by have := (hg.own id p hp).1; omega)⟩⟩
  refine ⟨hx, fun i x hi => ?_, fun i i' x x' r r' hi hi' hr hr' he => ?_, fun k hk => by rw [hsz]; exact hg.imm k hk, fun i x r hi hr => ?_, fun i r hr => by rw [hsz]; exact hg.own i r hr, by rw [hsz]; exact hg.base, fun g cs hgc => (hg.glob g cs hgc).mono hx⟩
  · by_cases h1 : i = id
    · subst h1
      simp only [upd_same, Option.some.injEq] at hi
      subst hi
      exact ⟨p, hp, (fun h' => absurd (h'.symm.trans hm) (by simp)), fun _ => hM hx⟩
    · rw [upd_ne _ _ h1] at hi
      obtain ⟨r, g1, g2, g3⟩ := hg.blk i x hi
      have hk := hne r.b (fun e => h1 (hg.inj i id x b r p hi hb g1 hp e))
      exact ⟨r, g1, fun hm => (g2 hm).mono hx hk, fun hm => (g3 hm).mono hx hk⟩
  · have key : ∀ i x, (upd h id (some b')) i = some x → ∃ y, h i = some y := by
      intro i x hi
      by_cases h1 : i = id
      · subst h1; exact ⟨_, hb⟩
      · rw [upd_ne _ _ h1] at hi; exact ⟨_, hi⟩
    obtain ⟨y, k1⟩ := key i x hi
    obtain ⟨y', k2⟩ := key i' x' hi'
    exact hg.inj i i' y y' r r' k1 k2 hr hr' he
  · by_cases h1 : i = id
    · subst h1; exact hg.sep i b r hb hr
    · rw [upd_ne _ _ h1] at hi; exact hg.sep i x r hi hr
theorem op_entryStore {ty : TypeId} {x y z : Operand} {id i : Nat} {b : Blk} {k v u : V} (ho : o.op = .entryStore ty x y z) (hx : E.eval t x = .map id) (hy : E.eval t y = .int .i64 i) (hz : E.eval t z = u) (hb : h id = some b) (hi : b.es[i]? = some [k, v]) :
    OpOK E o t h n [id] false .unk [(id, some { b with es := b.es.set i [k, u] })] n := by
  intro c a h2 K2 Q hd hx' hg hrd _ hf hK
  have g1 := hx' x (by simp [ho, Op.operands])
  have g2 := (by have := hx' y (by simp [ho, Op.operands]); rw [hy] at this; exact this.int_inv)
  have g3 := hx' z (by simp [ho, Op.operands])
  rw [hx] at g1; rw [hz] at g3
  obtain ⟨p, ⟨hp, hpm⟩, hv⟩ := g1.map_inv
  have hb2 : h2 id = some b := by rw [hrd id (by simp)]; exact hb
  obtain ⟨es, q1, q2, q3⟩ := hg.map hb2 hp hpm
  obtain ⟨e, k', v', r1, r2, r3, r4, r5⟩ := q3 i _ hi
  simp only [List.cons.injEq, and_true] at r2
  obtain ⟨rfl, rfl⟩ := r2
  have hlt : i < es.size := (Array.getElem?_eq_some_iff.1 r1).1
  have hborn : ∀ (m : Nat) (hm : m < es.size), es[m].born = m := by
    intro m hm
    obtain ⟨e', _, _, u1, _, u3, _⟩ := q3 m b.es[m] (by simp)
    have : es[m] = e' := (Array.getElem?_eq_some_iff.1 u1).2
    rw [this, u3]
  have hidx : es.findIdx? (fun e => (e.born : Int) == (i : Int)) = some i := by
    rw [Array.findIdx?_eq_some_iff_getElem]
    refine ⟨hlt, ?_, fun m hm => ?_⟩
    · simp [hborn i hlt]
    · simp [hborn m (by omega)]; omega
  have hex : (execOp a.eval o).run E.P c.w = .ok .skip (c.setMap p (.map (es.modify i fun e => { e with val := a.eval z }) b.es.length)).w := by
    simp [execOp, ho, hv, g2, Instr.entryStore, MapKept.run_getObj_map q1, asInt, asIntOf, hidx, MapKept.run_setObj_map _ q1, Result.andThen, Cx.setMap]
  unfold Oper.wp
  rw [hex, Oper.upon_skip]
  obtain ⟨s1, s2⟩ := hg.setMap (b' := { b with es := b.es.set i [k, u] }) (o := .map (es.modify i fun e => { e with val := a.eval z }) b.es.length) hb2 hp hpm (fun hxt => by
    refine ⟨_, by simp [Cx.setMap, (hg.own id p hp).2]; rfl, by simp [q2], fun m row hr => ?_⟩
    by_cases hm : m = i
    · subst hm
      simp only [List.getElem?_set_self (by omega : m < b.es.length), Option.some.injEq] at hr
      subst hr
      exact ⟨{ e with val := a.eval z }, k, u, by simp [Array.getElem?_modify, r1], rfl, r3, r4.mono hxt, g3.mono hxt⟩
    · rw [List.getElem?_set_ne (Ne.symm hm)] at hr
      obtain ⟨e', k', x', u1, u2, u3, u4, u5⟩ := q3 m row hr
      exact ⟨e', k', x', by simp [Array.getElem?_modify, Ne.symm hm, u1], u2, u3, u4.mono hxt, u5.mono hxt⟩)
  exact hK _ _ s1 s2 (fun id h => .inl h) (.unk _)
end ops
theorem Pure.of_wpX {E : Env} {f : FuncId} {fn : Func} {k : Code} {args : List A} {α : Type} {p : α → Prop} {R : α → List A} (hf : E.P.funcs[f]? = some fn) (hb : fn.body = some k) (hn : args.length ≤ fn.ntmps)
    (w : WP E fn.ntmps k (fun i => ((args.map (A.toV false))[i]?).getD .unk) (fun _ => none) 0 (fun x t h n => ∃ a, p a ∧ FinOK E fn (R a) x t h n)) (hnm : (fn.name != "runtime.NumGoroutine") = true := by rfl) : ∃ a, p a ∧ Pure E f args (R a) := by
  unfold WP at w
  obtain ⟨x, t', h', n', e, a, hp, hq⟩ := w
  exact ⟨a, hp, Pure.of_wp hf hb hn (by unfold WP; exact ⟨x, t', h', n', e, hq⟩) hnm⟩
theorem Open.of_wpX {E : Env} {f : FuncId} {fn : Func} {k : Code} {args : List V} {h : Heap} {n : Nat} {α : Type} {p : α → Prop} {v : α → V} {wr : α → List (Nat × Option Blk)} {m : α → Nat} (hf : E.P.funcs[f]? = some fn) (hb : fn.body = some k) (hn : args.length ≤ fn.ntmps)
    (w : WP E fn.ntmps k (fun i => (args[i]?).getD .unk) h n (fun x t' h' n' => ∃ a, p a ∧ OpenFin E fn (v a) h n (wr a) (m a) x t' h' n')) (hnm : (fn.name != "runtime.NumGoroutine") = true := by rfl) : ∃ a, p a ∧ Open E f args h n (v a) (wr a) (m a) := by
  unfold WP at w
  obtain ⟨x, t', h', n', e, a, hp, hq⟩ := w
  exact ⟨a, hp, Open.of_wp hf hb hn (by unfold WP; exact ⟨x, t', h', n', e, hq⟩) hnm⟩
end Go.V
namespace Go.V
open Go.RowKit (Below)
set_option linter.unusedSimpArgs false
set_option linter.unusedVariables false
theorem AA (a b : ByteArray) : (a.toList == b.toList) = decide (a = b) := by
  by_cases h : a = b
  · subst h; simp
  · have : a.toList ≠ b.toList := fun e => h (by
      rw [ByteArray.toList_eq, ByteArray.toList_eq] at e
      obtain ⟨⟨x⟩⟩ := a
      obtain ⟨⟨y⟩⟩ := b
      have e : x = y := e
      rw [e])
    simp [h, this]
theorem U4 (s : ByteArray) (i : Nat) : 0 ≤ bt s i := by unfold bt; omega
theorem E7 (s : ByteArray) (i : Nat) : bt s i ≤ 255 := by
  unfold bt
  have := (s.data.toList[i]?.getD 0).toNat_lt
  omega
theorem N6 (s : ByteArray) (i : Nat) : -9223372036854775808 ≤ bt s i := by have := U4 s i; omega
theorem N7 (s : ByteArray) (i : Nat) : bt s i ≤ 9223372036854775807 := by have := E7 s i; omega
theorem op_max {E : Env} {o : Oper} {t : Nat → V} {h : Heap} {n : Nat} {x y : Operand} {tys : Array TypeId} {k : IntKind} {a b : Int} (ho : o.op = .call { callee := .builtin .max, args := #[x, y], argTypes := tys }) (hx : E.eval t x = .int k a) (hy : E.eval t y = .int k b) :
    OpOK E o t h n [] false (.int k (max a b)) [] n := by
  have e : max a b = if a < b then b else a := by split <;> omega
  rw [e]
  exact OpOK.value fun c a' h2 hx' hg hrd => by
    have g1 := (by have := hx' x (by simp [ho, Op.operands, Call.operands]); rw [hx] at this; exact this.int_inv)
    have g2 := (by have := hx' y (by simp [ho, Op.operands, Call.operands]); rw [hy] at this; exact this.int_inv)
    refine ⟨.int k (if a < b then b else a), ?_, .int _ _⟩
    simp [execOp, ho, g1, g2, resolve, invoke, builtin, Builtin.max_, Builtin.max2]
theorem op_min {E : Env} {o : Oper} {t : Nat → V} {h : Heap} {n : Nat} {x y : Operand} {tys : Array TypeId} {k : IntKind} {a b : Int} (ho : o.op = .call { callee := .builtin .min, args := #[x, y], argTypes := tys }) (hx : E.eval t x = .int k a) (hy : E.eval t y = .int k b) :
    OpOK E o t h n [] false (.int k (min a b)) [] n := by
  have e : min a b = if b < a then b else a := by split <;> omega
  rw [e]
  exact OpOK.value fun c a' h2 hx' hg hrd => by
    have g1 := (by have := hx' x (by simp [ho, Op.operands, Call.operands]); rw [hx] at this; exact this.int_inv)
    have g2 := (by have := hx' y (by simp [ho, Op.operands, Call.operands]); rw [hy] at this; exact this.int_inv)
    refine ⟨.int k (if b < a then b else a), ?_, .int _ _⟩
    simp [execOp, ho, g1, g2, resolve, invoke, builtin, Builtin.min_, Builtin.min2]
inductive SnapC (h : Heap) (ids : List Nat) (r : Bool) : List V → List T → Prop
  | nil : SnapC h ids r [] []
  | cons (x : V) (y : T) (xs : List V) (ys : List T) (hs : Snap h ids r x y) (hr : SnapC h ids r xs ys) : SnapC h ids r (x :: xs) (y :: ys)
inductive SnapL (h : Heap) (ids : List Nat) (r : Bool) : List V → List A → Prop
  | nil : SnapL h ids r [] []
  | cons (x : V) (y : A) (xs : List V) (ys : List A) (hs : SnapA h ids r x y) (hr : SnapL h ids r xs ys) : SnapL h ids r (x :: xs) (y :: ys)
theorem SnapC.spec {h : Heap} {ids : List Nat} {r : Bool} {xs : List V} {ys : List T} (s : SnapC h ids r xs ys) : xs.length = ys.length ∧ ∀ (i : Nat) (x : V) (y : T), xs[i]? = some x → ys[i]? = some y → Snap h ids r x y := by
  induction s with
  | nil => exact ⟨rfl, by simp⟩
  | cons x y xs ys hs hr ih =>
    refine ⟨by simp [ih.1], fun i u v hu hv => ?_⟩
    cases i with
    | zero =>
      simp only [List.getElem?_cons_zero, Option.some.injEq] at hu hv
      subst hu; subst hv; exact hs
    | succ i => exact ih.2 i u v (by simpa using hu) (by simpa using hv)
theorem SnapC.agg {h : Heap} {ids : List Nat} {r : Bool} {xs : List V} {ys : List T} (s : SnapC h ids r xs ys) : SnapA h ids r (.agg xs) (.agg ys) := .agg xs ys s.spec.1 s.spec.2
theorem SnapL.spec {h : Heap} {ids : List Nat} {r : Bool} {xs : List V} {ys : List A} (s : SnapL h ids r xs ys) : xs.length = ys.length ∧ ∀ (i : Nat) (x : V) (y : A), xs[i]? = some x → ys[i]? = some y → SnapA h ids r x y := by
  induction s with
  | nil => exact ⟨rfl, by simp⟩
  | cons x y xs ys hs hr ih =>
    refine ⟨by simp [ih.1], fun i u v hu hv => ?_⟩
    cases i with
    | zero =>
      simp only [List.getElem?_cons_zero, Option.some.injEq] at hu hv
      subst hu; subst hv; exact hs
    | succ i => exact ih.2 i u v (by simpa using hu) (by simpa using hv)
theorem snapT {h : Heap} {ids : List Nat} {r fr : Bool} (x : T) (hr : r = true → fr = true) : Snap h ids r (x.toV fr) x := by
  cases x with
  | sl nn es => exact .sl fr nn es fun h => .inl (hr h)
  | _ => constructor
def rowsV (rows : List (List T)) : List (List V) := rows.map (·.map (T.toV true))
theorem S8 (a : List (List T)) : (rowsV a).length = a.length := by simp [rowsV]
theorem A3 {h : Heap} {ids : List Nat} {r : Bool} {id m : Nat} {b : Blk} (rows : List (List T)) (hid : id ∈ ids) (hb : h id = some b) (he : b.es = rowsV rows) (hm : m = rows.length) : Snap h ids r (.view id 0 m) (.sl true rows) := by
  subst hm
  have e : ((b.es.drop 0).take rows.length) = rowsV rows := by
    rw [he, List.drop_zero, List.take_of_length_le]
    rw [S8]; exact Nat.le_refl _
  refine .view id 0 _ b rows hid hb (by rw [he, S8]; omega) rfl (fun i x y h1 h2 => ?_) (fun i j x y h1 h2 => ?_)
  · rw [e] at h1
    simp only [rowsV, List.getElem?_map, h2, Option.map_some, Option.some.injEq] at h1
    subst h1; simp
  · rw [e] at h1
    unfold get2 at h1 h2
    cases hr : rows[i]? with
    | none => simp [hr] at h2
    | some row =>
      simp only [rowsV, List.getElem?_map, hr, Option.map_some, Option.bind_some] at h1 h2
      rw [h2] at h1
      simp only [Option.map_some, Option.some.injEq] at h1
      subst h1
      exact snapT y fun _ => rfl
theorem op_callS {E : Env} {t : Nat → V} {h : Heap} {n : Nat} {o : Oper} {z : Operand} {tys : Array TypeId} {f : FuncId} {args : Array Operand} {az rs : List A} {vs : List V} {ids : List Nat} (ho : o.op = .call { callee := .value z, args := args, argTypes := tys }) (hc : E.eval t z = .clo f []) (hv : args.toList.map (E.eval t) = vs) (hs : SnapL h ids false vs az) (hpure : Pure E f az rs) :
    OpOK E o t h n ids false (retV true rs) [] n := by
  have g := hs.spec
  refine op_call (ids := ids) ho hc (by rw [← hv] at g; simpa using g.1) (fun i x a h1 h2 => g.2 i _ a ?_ h2) hpure
  have : args.toList[i]? = some x := by simpa using h1
  rw [← hv, List.getElem?_map, this]; rfl
theorem N1 {a : Int} (h1 : -9223372036854775808 ≤ a) (h2 : a ≤ 9223372036854775807) : IntKind.i64.wrap a = a := by rw [IntKind.wrap_i64]; omega
section rules
variable {E : Env} {sz : Nat} {t : Nat → V} {h : Heap} {n : Nat} {ops : Array Oper} {l : List Oper} {o : Oper} {bl : List Nat} {pre : List Ef} {R : (Nat → V) → Heap → Nat → Prop} {x y z : Operand} {ty ty' : TypeId} {k : IntKind} {a b : Int} {p q : ByteArray} {v : V}
theorem op_st {i j m s : Nat} {B : Blk} {cs ys : List V} {r : Bool} {u : V} (ho : o.op = .store ty x y) (hx : E.eval t x = .ptr i j m) (hy : E.eval t y = u) (hb : h i = some B) (hi : B.es[j]? = some cs) (hr : rowP E.P ty = some (r, s)) (hk : u.known = true) (hkl : u.cells.length = s) (hc : u.cells.all V.cell = true) (hl : m + s ≤ cs.length) (hs : splice cs m u.cells = ys) :
    OpOK E o t h n [i] false .unk [(i, some { B with es := B.es.set j ys })] n := by subst hy; subst hs; exact op_store ho hx hb hi hr hk hkl hc hl
theorem op_callD {tys : Array TypeId} {f : FuncId} {args : Array Operand} {az rs : List A} (ho : o.op = .call { callee := .value z, args := args, argTypes := tys }) (hc : E.eval t z = .clo f []) (hs : dataL false (args.toList.map (E.eval t)) = some az) (hpure : Pure E f az rs) :
    OpOK E o t h n [] false (retV true rs) [] n := by
  have g := Z8 (h := h) (ids := []) hs
  refine op_call (ids := []) ho hc (by simpa using g.1) (fun i x a h1 h2 => g.2 i _ a ?_ h2) hpure
  have : args.toList[i]? = some x := by simpa using h1
  rw [List.getElem?_map, this]; rfl
theorem OpOK.case {rd : List Nat} {c : Prop} [Decidable c] (hop : OpOK E o t h n rd false (.bool (decide c)) [] n) : (c → OpOK E o t h n rd false (.bool true) [] n) ∧ (¬ c → OpOK E o t h n rd false (.bool false) [] n) :=
  ⟨fun hc => hop.to (by simp [hc]), fun hc => hop.to (by simp [hc])⟩
theorem dst {i j m s : Nat} {B : Blk} {cs ys : List V} {r : Bool} {u : V} (ho : o.op = .store ty x y) (hx : E.eval t x = .ptr i j m) (hy : E.eval t y = u) (hb : h i = some B) (hi : B.es[j]? = some cs) (hr : rowP E.P ty = some (r, s)) (hk : u.known = true) (hkl : u.cells.length = s) (hc : u.cells.all V.cell = true) (hl : m + s ≤ cs.length) (hs : splice cs m u.cells = ys) (hdd : o.dst = none) (hg : guardV ops t o = some true) (w : WD E sz ops bl (⟨false, .unk, [i], false, [(i, some { B with es := B.es.set j ys })], n, n⟩ :: pre) l t (app [(i, some { B with es := B.es.set j ys })] h) n R) : WD E sz ops bl pre (o :: l) t h n R := dOp (op_st ho hx hy hb hi hr hk hkl hc hl hs) (by rw [hdd]; rfl) hg (Nat.le_refl _) (fun h => by simp at h) (by rw [hdd]; exact w)
theorem res {i m : Nat} {B : Blk} {kv vv u : V} (ho : o.op = .entryStore ty x y z) (hx : E.eval t x = .map i) (hy : E.eval t y = .int .i64 m) (hz : E.eval t z = u) (hb : h i = some B) (hi : B.es[m]? = some [kv, vv]) (hdd : o.dst = none) (hg : guardV ops t o = some true) (w : WR E sz ops l t (app [(i, some { B with es := B.es.set m [kv, u] })] h) n R) : WR E sz ops (o :: l) t h n R := rOp (op_entryStore ho hx hy hz hb hi) (by rw [hdd]; rfl) hg (Nat.le_refl _) (fun h => by simp at h) (by rw [hdd]; exact w)
end rules
end Go.V
namespace Go.V
open Go.RowKit (Below)
set_option linter.unusedSimpArgs false
set_option linter.unusedVariables false
def Less (t' t : Nat → V) : Prop := ∀ i, t' i = t i ∨ t' i = .unk
def LessH (h' h : Heap) : Prop := ∀ id b, h' id = some b → h id = some b
theorem Less.refl (t : Nat → V) : Less t t := fun _ => .inl rfl
theorem LessH.refl (h : Heap) : LessH h h := fun _ _ e => e
section
variable {E : Env} {sz : Nat} {t t' : Nat → V} {h h' : Heap} {n n' : Nat} {Q : Post} {k : Code}
theorem Exec.less {x : Ex} {t2 : Nat → V} {h2 : Heap} {n2 : Nat} (e : Exec E sz k t' h' n' x t2 h2 n2) (ht : Less t' t) (hh : LessH h' h) (hn : n ≤ n') : Exec E sz k t h n x t2 h2 n2 := by
  refine ⟨Nat.le_trans hn e.1, fun c a hs hg hf => ?_⟩
  refine wp_mono (e.2 c a ⟨hs.size, fun i => ?_, hs.defers⟩ (hg.less hh) (fun id hid => hf id (Nat.le_trans hn hid))) ?_
  · rcases ht i with h1 | h1
    · rw [h1]; exact hs.tmps i
    · rw [h1]; exact .unk _
  · rintro ee a' w' ⟨h1, c', h2, h3, h4, h5, h6⟩
    exact ⟨h1, c', h2, h3, h4, h5, fun id hid => (h6 id hid).imp (fun h => h) (fun h => ⟨Nat.le_trans hn h.1, h.2⟩)⟩
theorem WP.less (t' : Nat → V) (h' : Heap) (n' : Nat) (ht : Less t' t) (hh : LessH h' h) (hn : n ≤ n') (w : WP E sz k t' h' n' Q) : WP E sz k t h n Q := by
  unfold WP at w ⊢
  obtain ⟨x, t2, h2, n2, e, q⟩ := w
  exact ⟨x, t2, h2, n2, e.less ht hh hn, q⟩
theorem WL.less (t' : Nat → V) (h' : Heap) (n' : Nat) (ht : Less t' t) (hh : LessH h' h) (hn : n ≤ n') (w : WL E sz k t' h' n' Q) : WL E sz k t h n Q := by
  unfold WL at w ⊢
  obtain ⟨x, t2, h2, n2, e, q⟩ := w
  refine ⟨x, t2, h2, n2, ?_, q⟩
  cases e with
  | last e hx => exact .last (e.less ht hh hn) hx
  | more e r => exact .more (e.less ht hh hn) r
end
theorem S9 {p : Nat → Prop} : ∀ j, j < 0 → p j := fun j hj => absurd hj (Nat.not_lt_zero j)
theorem U5 {p : Nat → Prop} {i : Nat} (h : ∀ j, j < i → p j) (hi : p i) : ∀ j, j < i + 1 → p j := fun j hj => by
  rcases Nat.lt_or_ge j i with h1 | h1
  · exact h j h1
  · obtain rfl : j = i := by omega
    exact hi
theorem E0 {h : Heap} {x : V} {i j m : Nat} {b : Blk} {es : List (List V)} (hx : x = .view i j m) (hb : h i = some b) (hl : j + m ≤ b.es.length) (he : (b.es.drop j).take m = es) : srcV h x = some es := by
  subst hx
  simp only [srcV, hb, hl, if_true, he]
theorem A2 {P : Program} {t : Nat → V} {h : Heap} {a ty id i j k : Nat} {b : Blk} {cs xs : List V} (ha : t a = .ptr id i j) (hb : h id = some b) (G0 : b.es[i]? = some cs ∧ rowP P ty = some (true, k)) (hl : j + k ≤ cs.length) (hx : (cs.drop j).take k = xs) : resV P t h (.cell a ty) = some (.agg xs) := by
  obtain ⟨hi, hr⟩ := G0
  subst hx
  simp only [resV, ha, hb, hi, hr, hl, if_true]
theorem A1 {P : Program} {t : Nat → V} {h : Heap} : resL P t h [] = some [] := rfl
theorem A0 {P : Program} {t : Nat → V} {h : Heap} {r : ResultVar} {rs : List ResultVar} {x : V} {xs : List V} (h1 : resV P t h r = some x) (h2 : resL P t h rs = some xs) : resL P t h (r :: rs) = some (x :: xs) := by
  simp only [resL, h1, h2]
def lst (l : List V) : Nat → V := fun i => (l[i]?).getD .unk
inductive LE (t : Nat → V) : Nat → List V → Prop
  | nil (k : Nat) : LE t k []
  | eq (k : Nat) (v : V) (l : List V) (h : t k = v) (r : LE t (k + 1) l) : LE t k (v :: l)
  | unk (k : Nat) (l : List V) (r : LE t (k + 1) l) : LE t k (.unk :: l)
theorem LE.get {t : Nat → V} {l : List V} {k : Nat} (e : LE t k l) (i : Nat) : lst l i = t (k + i) ∨ lst l i = .unk := by
  induction e generalizing i with
  | nil k => exact .inr (by simp [lst])
  | eq k v l h r ih =>
    cases i with
    | zero => exact .inl (by simp [lst, h])
    | succ i => simpa [lst, Nat.add_assoc, Nat.add_comm 1 i] using ih i
  | unk k l r ih =>
    cases i with
    | zero => exact .inr (by simp [lst])
    | succ i => simpa [lst, Nat.add_assoc, Nat.add_comm 1 i] using ih i
theorem LE.less {t : Nat → V} {l : List V} (e : LE t 0 l) : Less (lst l) t := fun i => by simpa using e.get i
section
variable {E : Env} {sz : Nat} {t t' : Nat → V} {h h' : Heap} {n n' : Nat} {Q : Post} {k : Code}
theorem wlN {l : List V} (w : WL E sz k (lst l) h n Q) (e : LE t 0 l) : WL E sz k t h n Q := w.less _ _ _ e.less (LessH.refl _) (Nat.le_refl _)
theorem C6 {l : List V} (w : WL E sz k (lst l) h' n' Q) (e : LE t 0 l) (hh : LessH h' h) (hn : n ≤ n') : WL E sz k t h n Q := w.less _ _ _ e.less hh hn
end
def residC (size : Nat) (bl : List Nat) (cs : List Nat) : List (Nat × Nat) :=
  (List.range size).flatMap fun j => (List.range j).filterMap fun i =>
    if (bl.getD j 0).testBit i then none else
    match cs[i]?, cs[j]? with
    | some e, some f => if compat e f then none else some (i, j)
    | _, _ => none
theorem residC_eq (size : Nat) (bl : List Nat) (es : List Ef) : residE size bl es = residC size bl (es.map Ef.cls) := by
  unfold residE residC
  congr 1
  funext j
  congr 1
  funext i
  split
  · rfl
  · rw [List.getElem?_map, List.getElem?_map]
    cases es[i]? <;> cases es[j]? <;> rfl
theorem finT {E : Env} {fn : Func} {x : Ex} {t : Nat → V} {h : Heap} {n : Nat} {p : Prop} [Decidable p] (hr : resL E.P t h fn.results.toList = some [.bool true]) (hp : p) (hx : x = .norm ∨ x = .ret := by first | exact .inl rfl | exact .inr rfl) : FinOK E fn [.one (.bool (decide p))] x t h n := by
  rw [decide_eq_true hp]
  exact fin hr rfl hx
theorem finF {E : Env} {fn : Func} {x : Ex} {t : Nat → V} {h : Heap} {n : Nat} {p : Prop} [Decidable p] (hr : resL E.P t h fn.results.toList = some [.bool false]) (hp : ¬ p) (hx : x = .norm ∨ x = .ret := by first | exact .inl rfl | exact .inr rfl) : FinOK E fn [.one (.bool (decide p))] x t h n := by
  rw [decide_eq_false hp]
  exact fin hr rfl hx
theorem finS {E : Env} {fn : Func} {res : List A} {x : Ex} {t : Nat → V} {h : Heap} {n : Nat} {xs : List V} (ids : List Nat) (hr : resL E.P t h fn.results.toList = some xs) (hs : SnapL h ids true xs res) (hx : x = .norm ∨ x = .ret := by first | exact .inl rfl | exact .inr rfl) : FinOK E fn res x t h n :=
  ⟨hx, xs, ids, X1 hr, hs.spec.1, hs.spec.2⟩
def hp : List (Nat × Blk) → Heap
  | [] => fun _ => none
  | (i, b) :: r => fun j => if j = i then some b else hp r j
theorem B8 {h : Heap} : LessH (hp []) h := fun id b e => by cases e
theorem C0 {h : Heap} {i : Nat} {b : Blk} {l : List (Nat × Blk)} (e : h i = some b) (r : LessH (hp l) h) : LessH (hp ((i, b) :: l)) h := fun id x hx => by
  by_cases hi : id = i
  · subst hi
    simp only [hp, if_true, Option.some.injEq] at hx
    subst hx; exact e
  · simp only [hp, hi, if_false] at hx
    exact r id x hx
section
variable {E : Env} {sz : Nat} {t t' : Nat → V} {h h' : Heap} {n n' : Nat} {Q : Post} {k : Code}
theorem A9 {α : Type} (T : α → List V) (H : α → Heap) (N : α → Nat) (I : α → Prop) (m : α → Nat) (a0 : α) (h0 : I a0) (le : LE t 0 (T a0)) (hh : LessH (H a0) h) (hn : n ≤ N a0)
    (step : ∀ a, I a → (∀ b, I b → m b < m a → WL E sz k (lst (T b)) (H b) (N b) Q) → WL E sz k (lst (T a)) (H a) (N a) Q) : WL E sz k t h n Q := by
  have key : ∀ M a, m a ≤ M → I a → WL E sz k (lst (T a)) (H a) (N a) Q := by
    intro M
    induction M with
    | zero => exact fun a ha hi => step a hi fun b hb hlt => by omega
    | succ M ih => exact fun a ha hi => step a hi fun b hb hlt => ih b (by omega) hb
  exact C6 (key _ a0 (Nat.le_refl _) h0) le hh hn
theorem X2 {α : Type} (T : α → List V) (I : α → Prop) (m : α → Nat) (a0 : α) (h0 : I a0) (le : LE t 0 (T a0))
    (step : ∀ a, I a → (∀ b, I b → m b < m a → WL E sz k (lst (T b)) h n Q) → WL E sz k (lst (T a)) h n Q) : WL E sz k t h n Q :=
  A9 T (fun _ => h) (fun _ => n) I m a0 h0 le (LessH.refl _) (Nat.le_refl _) step
end
inductive TW : T → T → Prop
  | refl (x : T) : TW x x
  | nil : TW .nsl (.sl false [])
  | sl (nn : Bool) (es : List (List T)) : TW (.sl nn es) (.sl false es)
inductive TWL : List T → List T → Prop
  | nil : TWL [] []
  | cons (x y : T) (xs ys : List T) (h : TW x y) (r : TWL xs ys) : TWL (x :: xs) (y :: ys)
inductive AW : A → A → Prop
  | one (x y : T) (h : TW x y) : AW (.one x) (.one y)
  | agg (xs ys : List T) (h : TWL xs ys) : AW (.agg xs) (.agg ys)
inductive AWL : List A → List A → Prop
  | nil : AWL [] []
  | cons (x y : A) (xs ys : List A) (h : AW x y) (r : AWL xs ys) : AWL (x :: xs) (y :: ys)
theorem TW.ok {I : Nat → Prop} {w : World} {x y : T} (h : TW x y) {v : Value} (hv : TR I w x v) : TR I w y v := by
  cases h with
  | refl => exact hv
  | nil =>
    cases hv
    exact .sl false [] none 0 0 0 (fun _ _ => undef) rfl (Nat.le_refl _) (fun _ => ⟨rfl, rfl, rfl⟩) (fun A hA => by cases hA) (by simp) (fun A _ _ _ hA => by cases hA) (fun i j c hc => by simp [get2] at hc)
  | sl nn es =>
    cases hv with
    | sl _ _ a len cap sz rd hlen hcap hnil hI hsz hrd hsub => exact .sl false es a len cap sz rd hlen hcap (fun h => ⟨rfl, (hnil h).2⟩) hI hsz hrd hsub
theorem TWL.get {xs ys : List T} (h : TWL xs ys) : xs.length = ys.length ∧ ∀ (i : Nat) (y : T), ys[i]? = some y → ∃ x, xs[i]? = some x ∧ TW x y := by
  induction h with
  | nil => exact ⟨rfl, by simp⟩
  | cons x y xs ys h r ih =>
    refine ⟨by simp [ih.1], fun i z hz => ?_⟩
    cases i with
    | zero => simp only [List.getElem?_cons_zero, Option.some.injEq] at hz; subst hz; exact ⟨x, rfl, h⟩
    | succ i => simpa using ih.2 i z (by simpa using hz)
theorem AWL.get {xs ys : List A} (h : AWL xs ys) : xs.length = ys.length ∧ ∀ (i : Nat) (y : A), ys[i]? = some y → ∃ x, xs[i]? = some x ∧ AW x y := by
  induction h with
  | nil => exact ⟨rfl, by simp⟩
  | cons x y xs ys h r ih =>
    refine ⟨by simp [ih.1], fun i z hz => ?_⟩
    cases i with
    | zero => simp only [List.getElem?_cons_zero, Option.some.injEq] at hz; subst hz; exact ⟨x, rfl, h⟩
    | succ i => simpa using ih.2 i z (by simpa using hz)
theorem AW.ok {I : Nat → Prop} {w : World} {x y : A} (h : AW x y) {v : Value} (hv : AR I w x v) : AR I w y v := by
  cases h with
  | one x y h => cases hv with | one _ _ hv => exact .one _ _ (h.ok hv)
  | agg xs ys h =>
    cases hv with
    | agg _ vs hl hv =>
      refine .agg _ _ (by rw [← h.get.1]; exact hl) fun i y v hy hv' => ?_
      obtain ⟨x, hx, hxy⟩ := h.get.2 i y hy
      exact hxy.ok (hv i x v hx hv')
theorem AWL.ok {I : Nat → Prop} {w : World} {xs ys : List A} (h : AWL xs ys) {v : Value} (hv : RR I w xs v) : RR I w ys v := by
  cases hv with
  | one a v hv =>
    cases h with
    | cons _ y _ ys h r => cases r with | nil => exact .one _ _ (h.ok hv)
  | tup az vs hne hl hv =>
    refine .tup _ _ (by rw [← h.get.1]; exact hne) (by rw [← h.get.1]; exact hl) fun i y v hy hv' => ?_
    obtain ⟨x, hx, hxy⟩ := h.get.2 i y hy
    exact hxy.ok (hv i x v hx hv')
theorem Pure.weak {E : Env} {f : FuncId} {az rs rs' : List A} (hp : Pure E f az rs) (h : AWL rs rs') : Pure E f az rs' := by
  unfold Pure at hp ⊢
  refine ⟨hp.1, fun I w vs h1 h2 h3 h4 => Calls.mono (hp.2 I w vs h1 h2 h3 h4) ?_⟩
  rintro e w' ⟨v, rfl, hb, hr⟩
  exact ⟨v, rfl, hb, h.ok hr⟩
theorem AW.get {x y : A} (h : AW x y) {I : Nat → Prop} {w : World} {v : Value} (hv : AR I w x v) : AR I w y v := h.ok hv
theorem app0 {h : Heap} : app [] h = h := rfl
theorem appC {h : Heap} {i : Nat} {b : Option Blk} {r : List (Nat × Option Blk)} : app ((i, b) :: r) h = app r (upd h i b) := rfl
theorem updS {f : Heap} {d i : Nat} {v : Option Blk} (h : i = d) : upd f d v i = v := by subst h; exact upd_same ..
theorem updN {f : Heap} {d i : Nat} {v : Option Blk} (h : ¬ i = d) : upd f d v i = f i := upd_ne f v h
theorem hpS {i j : Nat} {b : Blk} {l : List (Nat × Blk)} (h : j = i) : hp ((i, b) :: l) j = some b := by subst h; simp [hp, upd]
theorem hpN {i j : Nat} {b : Blk} {l : List (Nat × Blk)} (h : ¬ j = i) : hp ((i, b) :: l) j = hp l j := by simp [hp, upd, h]
theorem leWr {h h' : Heap} {n : Nat} {wr : List (Nat × Option Blk)} (hw : ∀ j ∈ wr.map (·.1), h' j = app wr h j) (ho : ∀ j, j < n → j ∉ wr.map (·.1) → h' j = h j) :
    (∀ i, n ≤ i → h i = none) → ∀ id b, app wr h id = some b → h' id = some b := by
  intro hz id b hb
  by_cases hi : id ∈ wr.map (·.1)
  · rw [hw id hi]; exact hb
  · rw [P0 _ _ _ hi] at hb
    rcases Nat.lt_or_ge id n with h1 | h1
    · rw [ho id h1 hi]; exact hb
    · rw [hz id h1] at hb; cases hb
theorem wrap_i64 {x : Int} (h1 : -9223372036854775808 ≤ x) (h2 : x ≤ 9223372036854775807) : IntKind.i64.wrap x = x := N1 h1 h2
end Go.V
namespace Go.Proofs.YteifdelnahccjaaGreatDoor
open Go.V
theorem Q0 {P : Prop} (h : P := by (first | ((simp (disch := omega) only [↓app0, ↓appC, ↓updS, ↓updN, ↓hpS, ↓hpN]) <;> first | rfl | assumption) | assumption | rfl)) : P := h
theorem Q1 {P : Prop} (h : P := by (first | (focus ((repeat first | with_reducible assumption | exact lkS (by omega) rfl | apply lkN (by omega)); done)) | ((simp (disch := (first | omega | assumption)) only [↓app0, ↓appC, ↓updS, ↓updN, ↓hpS, ↓hpN]) <;> first | rfl | assumption) | assumption | rfl)) : P := h
theorem Q2 {P : Prop} (h : P := by (first | omega | assumption | decide | (focus (simp; done)) | (focus (simp; omega)))) : P := h
theorem Q3 {P : Prop} (h : P := by (first | omega | (have t1 := E6 (a := i) (b := ((B.map bT).length : Int)) (by omega) (by omega); have t2 := E6 (a := i + 1) (b := ((B.map bT).length : Int)) (by omega) (by omega); have g1 := g (i.tmod ((B.map bT).length : Int)).toNat; have g2 := g ((i + 1).tmod ((B.map bT).length : Int)).toNat; omega))) : P := h
theorem Q4 {P : Prop} (h : P := by (first | omega | (focus (simp only [List.length_cons, List.length_nil]; omega)) | fail)) : P := h
theorem Q5 {P : Prop} (h : P := by (first | rfl | assumption | exact bdL_at _ hgd2 | exact vwL_at _ hgd2 | exact NM_at hH hml (by omega) hmt | (rw [Nat.zero_add]; exact getVm0 (by omega)))) : P := h
theorem Q6 {P : Prop} (h : P := by (first | rfl | assumption | (focus (simp; done)) | (focus (intro _ hc; rw [List.mem_singleton] at hc; subst hc; rfl)) | (intro _ _; simp_all))) : P := h
theorem Q7 {P : Prop} (h : P := by (first | omega | assumption | exact N6 _ _ | exact N7 _ _)) : P := h
theorem Q8 {P : Prop} (h : P := by (first | rfl | assumption)) : P := h
theorem Q9 {P : Prop} (h : P := by (first | exact B0 (Ct.T false) Ct0 (k := k2) (by omega) | exact B0 (Ct.T false) Ct0 (k := k) (by omega) | exact B0 Msg.T Msg0 (k := 0) (by omega) | (have e : ((sq : Int) - 1).toNat = sq - 1 := (by omega); rw [e]; exact B0 tT (⟨#[]⟩ : ByteArray) (k := sq - 1) (by omega)))) : P := h
theorem H5 {P : Prop} (h : P := by (first | rfl | (apply E0 rfl; exact Q0; (first | exact Nat.le_refl _ | omega); rfl))) : P := h
theorem Q11 {P : Prop} (h : P := by (first | rfl | assumption | exact getVk Msg.V Msg0 (k := i) (by omega) | exact getVk Msg.V Msg0 (k := i2) (by omega) | exact bsL_row _ (by omega) | exact bsL_row _ (x := (sq : Int)) (by omega))) : P := h
theorem Q12 {P : Prop} (h : P := by (first | rfl | assumption | (focus (exact K8 true _)) | (focus (exact K8 false _)) | (focus (exact P8 _)) | (focus (intro c hc; simp only [List.mem_cons, List.not_mem_nil, or_false] at hc; rcases hc with rfl; rfl)) | (focus (simp; done)) | (focus (intro _ hc; rw [List.mem_singleton] at hc; subst hc; rfl)) | (intro _ _; simp_all))) : P := h
theorem E8 {P : Prop} (h : P := by (first | omega | assumption | (focus (simp; omega)))) : P := h
theorem L2 {P : Prop} (h : P := by (first | omega | assumption | decide | exact J6 _ | (focus (simp; done)) | (focus (simp; omega)))) : P := h
theorem Q15 {P : Prop} (h : P := by (first | exact B0 Msg.T Msg0 (L := L) (k := i) (by omega) | (have e : ((i : Int) - 1).toNat = i - 1 := (by omega); rw [e]; exact B0 Msg.T Msg0 (k := i - 1) (by omega)) | exact B0 (Ct.T false) Ct0 (k := k) (by omega) | exact B0 Msg.T Msg0 (k := 0) hgd.1)) : P := h
theorem Q16 {P : Prop} (h : P := by (first | omega | (focus (simp only [List.length_cons, List.length_nil]; omega)) | exact kb | (focus (simp only [List.length_append, List.length_drop, List.length_map, List.length_cons, List.length_nil, A5, Nat.sub_zero, Nat.zero_add, D8, D1, Array.length_toList]; omega)) | omega)) : P := h
theorem Q17 {P : Prop} (h : P := by (first | rfl | (focus (simp only [List.length_append, List.length_drop, List.length_map, List.length_cons, List.length_nil, A5, Nat.sub_zero, Nat.zero_add, D8, D1]; done)) | (focus (simp only [List.length_append, List.length_drop, List.length_map, List.length_cons, List.length_nil, A5, Nat.sub_zero, Nat.zero_add, D8, D1]; omega)))) : P := h
theorem P1 {P : Prop} (h : P := by (first | omega | assumption | exact ne_pos (by assumption) | exact N6 _ _ | exact N7 _ _)) : P := h
theorem Q19 {P : Prop} (h : P := by (first | exact kb | (focus (simp only [List.length_append, List.length_drop, List.length_map, List.length_cons, List.length_nil, A5, Nat.sub_zero, Nat.zero_add, D8, D1]; omega)) | omega)) : P := h
theorem Q20 {P : Prop} (h : P := by (first | omega | (focus (simp only [List.length_cons, List.length_nil]; omega)) | exact kb | (focus (simp only [List.length_append, List.length_drop, List.length_map, List.length_cons, List.length_nil, A5, hbl, P2, Nat.sub_zero, Nat.zero_add, D8, D1, Array.length_toList]; omega)) | omega)) : P := h
theorem N8 {P : Prop} (h : P := by (first | rfl | assumption | exact getVm Ct.V Ct0 (i := i) (by omega) (by omega))) : P := h
theorem Q22 {P : Prop} (h : P := by (first | rfl | (focus (simp only [List.length_append, List.length_drop, List.length_map, List.length_cons, List.length_nil, A5, Nat.sub_zero, Nat.zero_add, D8, D1, Array.length_toList]; done)) | (focus (simp only [List.length_append, List.length_drop, List.length_map, List.length_cons, List.length_nil, A5, Nat.sub_zero, Nat.zero_add, D8, D1, Array.length_toList]; omega)))) : P := h
theorem N4 {P : Prop} (h : P := by (first | omega | assumption | decide | (rw [List.length_map]; omega))) : P := h
theorem F9 {P : Prop} (h : P := by (first | omega | assumption | exact Q0)) : P := h
theorem Q25 {P : Prop} (h : P := by (first | exact B0 Rg.T Rg0 (k := i) (by omega) | (have e : ((i : Int) - 1).toNat = i - 1 := (by omega); rw [e]; exact B0 Rg.T Rg0 (k := i - 1) (by omega)) | exact B0 iT 0 (by rw [h12_1]; omega))) : P := h
theorem Q26 {P : Prop} (h : P := by (first | rfl | (focus (simp only [List.length_append, List.length_drop, List.length_map, List.length_cons, List.length_nil, A5, hbl, P2, Nat.sub_zero, Nat.zero_add, D8, D1, Array.length_toList]; done)) | (focus (simp only [List.length_append, List.length_drop, List.length_map, List.length_cons, List.length_nil, A5, hbl, P2, Nat.sub_zero, Nat.zero_add, D8, D1, Array.length_toList]; omega)))) : P := h
theorem Q27 {P : Prop} (h : P := by (first | omega | assumption | (focus (simp only [C3, A5]; omega)) | (focus (simp; omega)))) : P := h
theorem Q28 {P : Prop} (h : P := by (first | omega | (focus (simp only [List.length_cons, List.length_nil]; omega)) | exact Nat.le_of_ble_eq_true rfl | ((show (_ + 1) * _ ≤ _); omega) | ((show _ + 1 ≤ _); omega) | ((show (_ + 4) * _ ≤ _); omega) | ((show _ + 4 ≤ _); omega))) : P := h
theorem Q29 {P : Prop} (h : P := by (first | rfl | omega | (focus (simp; done)) | (focus (simp; omega)))) : P := h
theorem Q30 {P : Prop} (h : P := by (first | exact N6 _ _ | exact N7 _ _ | omega | exact Q7)) : P := h
theorem Q31 {P : Prop} (h : P := by (first | exact B0 Msg.T Msg0 (k := i) (by omega) | (have e : ((i : Int) - 1).toNat = i - 1 := (by omega); rw [e]; exact B0 Msg.T Msg0 (k := i - 1) (by omega)) | exact B0 (Ct.T false) Ct0 (k := k) (by omega))) : P := h
theorem Q32 {P : Prop} (h : P := by (first | omega | (focus (simp only [List.length_cons, List.length_nil]; omega)) | exact kb | (focus (simp only [List.length_append, List.length_drop, List.length_map, List.length_cons, List.length_nil, A5, hbl, Nat.sub_zero, Nat.zero_add, D8, D1, Array.length_toList]; omega)) | omega)) : P := h
theorem Q33 {P : Prop} (h : P := by (first | omega | (focus (simp only [List.length_cons, List.length_nil]; omega)) | (first | exact kb | (simp only [List.length_cons, List.length_nil, List.length_map]; omega)))) : P := h
theorem Q34 {P : Prop} (h : P := by (first | omega | (focus (simp only [List.length_cons, List.length_nil]; omega)) | (first | (show (_ + 1) * _ ≤ _; omega) | (show _ + 1 ≤ _; omega) | (rw [J7]; omega)))) : P := h
theorem Q35 {P : Prop} (h : P := by (first | rfl | assumption | exact getV0 iV 0 (k := j) (by omega) | exact getVm iV 0 (i := j) (by omega) (by omega) | exact getVs iV 0 (i := j) (by omega) (by omega) (by omega))) : P := h
theorem Q36 {P : Prop} (h : P := by (first | omega | (focus (simp only [List.length_cons, List.length_nil]; omega)) | exact kb | (focus (simp only [List.length_append, List.length_drop, List.length_map, List.length_cons, List.length_nil, Nat.sub_zero, Nat.zero_add]; omega)) | omega)) : P := h
theorem Q37 {P : Prop} (h : P := by (first | omega | assumption | decide | exact Q1)) : P := h
theorem Q38 {P : Prop} (h : P := by (first | exact B0 Rg.T Rg0 (k := i) (by omega) | (have e : ((i : Int) - 1).toNat = i - 1 := (by omega); rw [e]; exact B0 Rg.T Rg0 (k := i - 1) (by omega)))) : P := h
theorem Q39 {P : Prop} (h : P := by (first | exact B0 Msg.T Msg0 (k := i) (by omega) | exact B0 Msg.T Msg0 (k := 0) (by omega) | (have e : ((i : Int) - 1).toNat = i - 1 := (by omega); rw [e]; exact B0 Msg.T Msg0 (k := i - 1) (by omega)))) : P := h
theorem Q40 {P : Prop} (h : P := by (first | omega | exact Q0 | exact E8)) : P := h
theorem Q41 {P : Prop} (h : P := by (first | exact B0 tT ⟨#[]⟩ (k := i) (by omega) | exact B0 Msg.T Msg0 (k := 0) (by first | exact O2 ⟨hn, h11_5⟩ | exact VC.pos hn hI.vc _ (by first | omega | (dsimp only; omega))))) : P := h
theorem Q42 {P : Prop} (h : P := by (first | omega | (rw [A6]; show 8 + 1 ≤ _; omega) | (rw [E2]; omega) | (show (8 : Int) ≤ ((Hs _).size : Int); rw [E2]; omega))) : P := h
theorem Q43 {P : Prop} (h : P := by (first | omega | assumption | (rw [C3]; show ((1 : Nat) : Int) + _ ≤ _; omega) | (rw [C3]; show 1 + _ ≤ _; omega) | (show 1 + _ ≤ _; omega) | (focus (simp; omega)))) : P := h
theorem Q44 {P : Prop} (h : P := by (first | rfl | assumption | (focus (intro c hc; simp only [List.mem_cons, List.not_mem_nil, or_false] at hc; rcases hc with rfl; rfl)) | (focus (simp; done)) | (focus (intro _ hc; rw [List.mem_singleton] at hc; subst hc; rfl)) | (intro _ _; simp_all))) : P := h
end Go.Proofs.YteifdelnahccjaaGreatDoor
