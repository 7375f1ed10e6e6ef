/- A logic over abstract states: maps, arrays, functions of which it is said only that there is a result. No conditions. -/
import Derived.Test.YtknnniaoboaghaaVl
import Derived.WideKeyArr
namespace Go.V
open Go.RowKit (Below)
set_option linter.unusedSimpArgs false
set_option linter.unusedVariables false

/-! Arrays. -/

/-- Of an array's type: how many elements, their type, the cells of one. -/
def arrP (P : Program) (ty : TypeId) : Option (Nat × TypeId × Nat) :=
  match P.underlying ty with
  | some (.array m e) => (P.info? e).map fun i => (m, e, i.size)
  | _ => none

theorem arrP_spec {P : Program} {ty e : TypeId} {m k : Nat} (h : arrP P ty = some (m, e, k)) : P.underlying ty = some (.array m e) ∧ ∃ i, P.info? e = some i ∧ i.size = k := by
  unfold arrP at h
  split at h
  · rename_i m' e' hu
    cases hi : P.info? e' with
    | none => simp [hi] at h
    | some i =>
      simp only [hi, Option.map_some, Option.some.injEq, Prod.mk.injEq] at h
      obtain ⟨rfl, rfl, rfl⟩ := h
      exact ⟨hu, i, hi, rfl⟩
  · cases h

section ops
variable {E : Env} {o : Oper} {t : Nat → V} {h : Heap} {n : Nat}

theorem run_indexArr {P : Program} {w : World} {ty e : TypeId} {m s b off : Nat} {k : IntKind} {a : Int} (hs : arrP P ty = some (m, e, s)) (h0 : 0 ≤ a) (h1 : a < m) :
    (Instr.indexAt ty (.pointer (some ⟨b, off, none⟩)) (.int k a)).run P w = .ok (.pointer (some ⟨b, off + a.toNat * s, none⟩)) w := by
  obtain ⟨hu, i, hi, rfl⟩ := arrP_spec hs
  simp [Instr.indexAt, run_underlying hu, Instr.sureAddr, asIntOf, h0, h1, sizeOf, typeInfo, hi, Addr.add_mid]

theorem op_index_arr {ty e : TypeId} {x y : Operand} {k : IntKind} {a : Int} {i j m c s : Nat} (ho : o.op = .indexAddr ty x y) (hx : E.eval t x = .ptr i j m) (hy : E.eval t y = .int k a)
    (hs : arrP E.P ty = some (c, e, s)) (h0 : 0 ≤ a) (h1 : a < c) : OpOK E o t h n [] false (.ptr i j (m + a.toNat * s)) [] n :=
  OpOK.value fun cx ac h2 hx' hg hrd => by
    have g1 := hx' x (by simp [ho, Op.operands])
    have g2 := (by have := hx' y (by simp [ho, Op.operands]); rw [hy] at this; exact this.int_inv)
    rw [hx] at g1
    obtain ⟨p, ⟨hp, hm⟩, hv⟩ := g1.ptr_inv
    refine ⟨.pointer (some ⟨p.b, p.o + j * p.sz + (m + a.toNat * s), none⟩), ?_, .ptr _ _ _ _ hp hm⟩
    simp only [execOp, ho, hv, g2]
    simp [run_indexArr hs h0 h1, Nat.add_assoc]

theorem op_index_arr_i {ty e : TypeId} {x y : Operand} {k : IntKind} {a : Int} {fr : Bool} {cs : List T} {c s : Nat} (ho : o.op = .indexAddr ty x y) (hx : E.eval t x = .iptr fr cs) (hy : E.eval t y = .int k a)
    (hs : arrP E.P ty = some (c, e, s)) (h0 : 0 ≤ a) (h1 : a < c) : OpOK E o t h n [] false (.iptr fr (cs.drop (a.toNat * s))) [] n :=
  OpOK.value fun cx ac h2 hx' hg hrd => by
    have g1 := hx' x (by simp [ho, Op.operands])
    have g2 := (by have := hx' y (by simp [ho, Op.operands]); rw [hy] at this; exact this.int_inv)
    rw [hx] at g1
    generalize hw : ac.eval x = w at g1
    cases g1 with
    | iptr _ _ b off rd hI hrd' hsub =>
      refine ⟨.pointer (some ⟨b, off + a.toNat * s, none⟩), ?_, .iptr fr _ b _ (fun j => rd (a.toNat * s + j)) hI (fun j x hj => ?_) (fun j x hj => ?_)⟩
      · simp only [execOp, ho, hw, g2]
        simp [run_indexArr hs h0 h1]
      · rw [List.getElem?_drop] at hj
        rw [Nat.add_assoc]; exact hrd' _ x hj
      · rw [List.getElem?_drop] at hj
        exact hsub _ x hj

theorem op_index_agg {ty e : TypeId} {x y : Operand} {k : IntKind} {a : Int} {cs : List V} {v : V} {c s : Nat} {r : Bool} (ho : o.op = .index ty x y) (hx : E.eval t x = .agg cs) (hy : E.eval t y = .int k a)
    (hs : arrP E.P ty = some (c, e, s)) (hr : rowP E.P e = some (r, s)) (h0 : 0 ≤ a) (h1 : a < c) (hv : partV cs (a.toNat * s) s r = some v) (hl : a.toNat * s + s ≤ cs.length) : OpOK E o t h n [] false v [] n :=
  OpOK.value fun cx ac h2 hx' hg hrd => by
    have g1 := hx' x (by simp [ho, Op.operands])
    have g2 := (by have := hx' y (by simp [ho, Op.operands]); rw [hy] at this; exact this.int_inv)
    rw [hx] at g1
    obtain ⟨vs, hv', hsz, hget⟩ := g1.agg_inv
    obtain ⟨hu, i, hi, rfl⟩ := arrP_spec hs
    obtain ⟨u, hu1, hu2⟩ := part_ok hsz hget hr hv hl
    refine ⟨u, ?_, hu2⟩
    simp [execOp, ho, hv', g2, Instr.index, asIntOf, run_underlying hu, h0, h1, sizeOf, typeInfo, hi, hu1]

/-- A slice of a nil slice: only that it goes well. -/
theorem op_slice_nsl {ty e : TypeId} {x : Operand} {lo hi : Option Operand} {sz : Nat} (ho : o.op = .slice ty x lo hi none) (hx : E.eval t x = .nsl)
    (hs : sliceP E.P ty = some (e, sz)) (hl : bndV E t lo 0 = some 0) (hr : bndV E t hi 0 = some 0) : OpOK E o t h n [] false .unk [] n :=
  OpOK.value fun c a h2' hx' hg hrd => by
    have g1 := hx' x (by simp [ho, Op.operands])
    rw [hx] at g1
    have gl := bnd_val hl (fun y hy => hx' y (by simp [ho, Op.operands, hy]))
    have gr := bnd_val hr (fun y hy => hx' y (by simp [ho, Op.operands, hy]))
    obtain ⟨hu, i, hi', hiz⟩ := sliceP_spec hs
    have hv := g1.nsl_inv
    have hrun := run_bounds (P := E.P) (w := c.w) (len := 0) (cap := 0) (lo := lo.map a.eval) (hi := hi.map a.eval) (l := 0) (r := 0)
      (by rcases gl with ⟨rfl, h⟩ | ⟨y, k, rfl, h⟩
          · exact .inl ⟨rfl, rfl⟩
          · exact .inr ⟨k, by simp [h]⟩)
      (by rcases gr with ⟨rfl, h⟩ | ⟨y, k, rfl, h⟩
          · exact .inl ⟨rfl, rfl⟩
          · exact .inr ⟨k, by simp [h]⟩) (Int.le_refl _) (Int.le_refl _) (Int.le_refl _) (Nat.le_refl _)
    refine ⟨.slice none 0 0, ?_, .unk _⟩
    simp [execOp, ho, hv, Instr.sliceAt, Instr.slice, run_underlying hu, hrun, sizeOf, typeInfo, hi']

/-- A function without a body, of two strings, that gives a number. -/
theorem op_ext2 {fo x y : Operand} {tys : Array TypeId} {f : FuncId} {p q : ByteArray} {k : IntKind} {r : Int} (hrun : ∀ w, (callFunc f #[.string p, .string q]).run E.P w = .ok (.value (.int k r)) w)
    (ho : o.op = .call { callee := .value fo, args := #[x, y], argTypes := tys }) (hc : E.eval t fo = .clo f []) (hx : E.eval t x = .str p) (hy : E.eval t y = .str q) : OpOK E o t h n [] false (.int k r) [] n :=
  OpOK.value fun c a h2 hx' hg hrd => by
    have g0 := hx' fo (by simp [ho, Op.operands, Call.operands])
    have g1 := (by have := hx' x (by simp [ho, Op.operands, Call.operands]); rw [hx] at this; exact this.str_inv)
    have g2 := (by have := hx' y (by simp [ho, Op.operands, Call.operands]); rw [hy] at this; exact this.str_inv)
    rw [hc] at g0
    refine ⟨.int k r, ?_, .int _ _⟩
    generalize hw : a.eval fo = w at g0
    cases g0 with
    | clo _ _ vs hl hh =>
      have hvs : vs = #[] := Array.eq_empty_of_size_eq_zero (by simpa using hl.symm)
      subst hvs
      simp [execOp, ho, hw, resolve, Deferred.ofValue, invoke, g1, g2, hrun]

/-! Maps. -/

/-- A key that is one cell, or a struct or an array of such: what it is. -/
def scalV : V → Option Value
  | .bool b => some (.bool b)
  | .int k n => some (.int k n)
  | .str s => some (.string s)
  | _ => none
def scalL : List V → Option (List Value)
  | [] => some []
  | x :: r => match scalV x, scalL r with
    | some v, some vs => some (v :: vs)
    | _, _ => none
def V.val : V → Option Value
  | .agg cs => (scalL cs).map fun vs => .agg vs.toArray
  | x => scalV x

theorem scalV_inj {x y : V} {v : Value} (hx : scalV x = some v) (hy : scalV y = some v) : x = y := by
  cases x <;> simp [scalV] at hx <;> cases y <;> simp [scalV] at hy <;> subst hx <;> simp_all
theorem scalL_inj : ∀ {xs ys : List V} {vs : List Value}, scalL xs = some vs → scalL ys = some vs → xs = ys
  | [], [], _, _, _ => rfl
  | [], y :: r, vs, hx, hy => by
    simp only [scalL, Option.some.injEq] at hx; subst hx
    unfold scalL at hy; split at hy <;> simp at hy
  | x :: r, [], vs, hx, hy => by
    simp only [scalL, Option.some.injEq] at hy; subst hy
    unfold scalL at hx; split at hx <;> simp at hx
  | x :: r, y :: q, vs, hx, hy => by
    unfold scalL at hx hy
    split at hx
    · rename_i v us h1 h2
      split at hy
      · rename_i v' us' h3 h4
        simp only [Option.some.injEq] at hx hy
        subst hx
        simp only [List.cons.injEq] at hy
        obtain ⟨rfl, rfl⟩ := hy
        rw [scalV_inj h1 h3, scalL_inj h2 h4]
      · cases hy
    · cases hx
theorem val_inj {x y : V} {v : Value} (hx : x.val = some v) (hy : y.val = some v) : x = y := by
  have hagg : ∀ {z : V} {vs : Array Value}, scalV z ≠ some (.agg vs) := by intro z vs e; cases z <;> simp [scalV] at e
  unfold V.val at hx hy
  split at hx
  · rename_i cs
    split at hy
    · rename_i ds
      cases h1 : scalL cs with
      | none => simp [h1] at hx
      | some us =>
        cases h2 : scalL ds with
        | none => simp [h2] at hy
        | some ws =>
          simp only [h1, Option.map_some, Option.some.injEq] at hx
          simp only [h2, Option.map_some, Option.some.injEq] at hy
          subst hx
          simp only [Value.agg.injEq] at hy
          have : ws = us := by simpa using congrArg Array.toList hy
          subst this
          rw [scalL_inj h1 h2]
    · cases h1 : scalL cs with
      | none => simp [h1] at hx
      | some us =>
        simp only [h1, Option.map_some, Option.some.injEq] at hx
        subst hx
        exact absurd hy hagg
  · split at hy
    · rename_i ds
      cases h1 : scalL ds with
      | none => simp [h1] at hy
      | some us =>
        simp only [h1, Option.map_some, Option.some.injEq] at hy
        subst hy
        exact absurd hx hagg
    · exact scalV_inj hx hy

theorem scalV_ok {c : Cx} {x : V} {v w : Value} (h : scalV x = some v) (hr : VR c x w) : w = v := by
  cases x <;> simp [scalV] at h <;> subst h
  · exact hr.bool_inv
  · exact hr.int_inv
  · exact hr.str_inv
theorem scalL_get : ∀ {xs : List V} {vs : List Value}, scalL xs = some vs → xs.length = vs.length ∧ ∀ (i : Nat) (x : V) (v : Value), xs[i]? = some x → vs[i]? = some v → scalV x = some v
  | [], vs, h => by simp only [scalL, Option.some.injEq] at h; subst h; simp
  | x :: r, vs, h => by
    unfold scalL at h
    split at h
    · rename_i v us h1 h2
      simp only [Option.some.injEq] at h; subst h
      obtain ⟨g1, g2⟩ := scalL_get h2
      refine ⟨by simp [g1], fun i y u hy hu => ?_⟩
      cases i with
      | zero => simp at hy hu; subst hy; subst hu; exact h1
      | succ i => exact g2 i y u (by simpa using hy) (by simpa using hu)
    · cases h
theorem val_ok {c : Cx} {x : V} {v w : Value} (h : x.val = some v) (hr : VR c x w) : w = v := by
  unfold V.val at h
  split at h
  · rename_i cs
    cases h1 : scalL cs with
    | none => simp [h1] at h
    | some us =>
      simp only [h1, Option.map_some, Option.some.injEq] at h
      subst h
      obtain ⟨ws, rfl, g1, g2⟩ := hr.agg_inv
      obtain ⟨g3, g4⟩ := scalL_get h1
      congr 1
      apply Array.ext
      · simp; omega
      · intro i hi1 hi2
        have hc : i < cs.length := by omega
        have hu : i < us.length := by omega
        have := scalV_ok (g4 i cs[i] us[i] (by simp [hc]) (by simp [hu])) (g2 i cs[i] ws[i] (by simp [hc]) (by simp [hi1]))
        simpa using this
  · exact scalV_ok h hr

/-- Of a map's type: its keys' and its elements' types. -/
def mapP (P : Program) (ty : TypeId) : Option (TypeId × TypeId) :=
  match P.underlying ty with
  | some (.map k e) => some (k, e)
  | _ => none
theorem mapP_spec {P : Program} {ty k e : TypeId} (h : mapP P ty = some (k, e)) : P.underlying ty = some (.map k e) := by
  unfold mapP at h
  split at h
  · simp only [Option.some.injEq, Prod.mk.injEq] at h; obtain ⟨rfl, rfl⟩ := h; assumption
  · cases h

def KeyOK (P : Program) (kt : TypeId) (k : V) : Prop := ∃ v l, k.val = some v ∧ keyOf P kt v = some l
def KeysOK (P : Program) (kt : TypeId) (es : List (List V)) : Prop := ∀ (i : Nat) (row : List V), es[i]? = some row → ∃ k x, row = [k, x] ∧ KeyOK P kt k

theorem VR.map_inv {c : Cx} {id : Nat} {v : Value} (h : VR c (.map id) v) : ∃ p, (c.ρ id = some p ∧ p.m = true) ∧ v = .map (some p.b) := by
  cases h with | map _ p hp hm => exact ⟨p, ⟨hp, hm⟩, rfl⟩

/-- What a map's lookup finds. -/
theorem find_ok {c : Cx} {p : Place} {b : Blk} (hM : MapAt c p b) {P : Program} {kt : TypeId} (K : WideMaps.KeyLaw P kt) (hks : KeysOK P kt b.es) {k : V} (hk : KeyOK P kt k) {key : Value} (hkey : VR c k key) (w : World) :
    ∃ es, c.w.heap[p.b]? = some (.map es b.es.length) ∧ es.size = b.es.length ∧ (∀ (i : Nat) (row : List V), b.es[i]? = some row → ∃ e k x, es[i]? = some e ∧ row = [k, x] ∧ e.born = i ∧ VR c k e.key ∧ VR c x e.val) ∧
      (∀ em, (Instr.checkKey em 10000 kt key).run P w = .ok () w) ∧ (Instr.keyThatStays key key).run P w = .ok key w ∧
      (((Instr.findKey kt key es.toList).run P w = .ok none w ∧ ∀ (i : Nat) (k' x : V), b.es[i]? = some [k', x] → k' ≠ k) ∨
        ∃ j e x, (Instr.findKey kt key es.toList).run P w = .ok (some (j, e.val)) w ∧ es[j]? = some e ∧ e.key = key ∧ e.born = j ∧ b.es[j]? = some [k, x] ∧ VR c x e.val) := by
  obtain ⟨es, h1, h2, h3⟩ := hM
  obtain ⟨kv, l, hkv, hkl⟩ := hk
  have hkk : key = kv := val_ok hkv hkey
  subst hkk
  have hall : ∀ e ∈ es.toList, ∃ l, keyOf P kt e.key = some l := by
    intro e he
    obtain ⟨i, hi⟩ := List.getElem?_of_mem he
    rw [Array.getElem?_toList] at hi
    have hlt : i < b.es.length := by rw [← h2]; exact (Array.getElem?_eq_some_iff.1 hi).1
    obtain ⟨e', k', x', g1, g2, g3, g4, g5⟩ := h3 i b.es[i] (by simp [hlt])
    rw [hi] at g1; obtain rfl := Option.some.inj g1
    obtain ⟨k2, x2, g6, v2, l2, g7, g8⟩ := hks i b.es[i] (by simp [hlt])
    rw [g2] at g6
    simp only [List.cons.injEq, and_true] at g6
    obtain ⟨rfl, rfl⟩ := g6
    rw [val_ok g7 g4]
    exact ⟨l2, g8⟩
  refine ⟨es, h1, h2, h3, fun em => K.check w em hkl, K.stays w hkl, ?_⟩
  rcases K.find w hkl es.toList hall with ⟨g1, g2⟩ | ⟨j, e, g1, g2, g3⟩
  · refine .inl ⟨g1, fun i k' x hi e => ?_⟩
    subst e
    obtain ⟨en, k2, x2, q1, q2, q3, q4, q5⟩ := h3 i _ hi
    simp only [List.cons.injEq, and_true] at q2
    obtain ⟨rfl, rfl⟩ := q2
    exact g2 en (Array.mem_toList_iff.2 (Array.mem_of_getElem? q1)) (val_ok hkv q4)
  · rw [Array.getElem?_toList] at g2
    have hlt : j < b.es.length := by rw [← h2]; exact (Array.getElem?_eq_some_iff.1 g2).1
    obtain ⟨en, k2, x2, q1, q2, q3, q4, q5⟩ := h3 j b.es[j] (by simp [hlt])
    rw [g2] at q1; obtain rfl := Option.some.inj q1
    obtain ⟨k3, x3, g6, v3, l3, g7, g8⟩ := hks j b.es[j] (by simp [hlt])
    rw [q2] at g6
    simp only [List.cons.injEq, and_true] at g6
    obtain ⟨rfl, rfl⟩ := g6
    have e1 := val_ok g7 q4
    have e2 : k2 = k := val_inj (v := key) (by rw [g7, ← e1, g3]) hkv
    subst e2
    exact .inr ⟨j, e, x2, g1, g2, g3, q3, by rw [← q2]; simp [hlt], q5⟩

/-- The zero value of a type. -/
def zeroC (P : Program) (ty : TypeId) : Option Value := (P.info? ty).bind (·.zero)
theorem zeroC_run {P : Program} {ty : TypeId} {z : Value} (h : zeroC P ty = some z) (w : World) : (zeroValue ty).run P w = .ok z w := by
  unfold zeroC at h
  cases hi : P.info? ty with
  | none => simp [hi] at h
  | some i =>
    simp only [hi, Option.bind_some] at h
    simp [zeroValue, typeInfo, hi, h]

theorem op_lookup_hit {ty kt et : TypeId} {x y : Operand} {id i : Nat} {b : Blk} {k v : V} (ho : o.op = .lookup ty x y false) (hx : E.eval t x = .map id) (hm : mapP E.P ty = some (kt, et)) (K : WideMaps.KeyLaw E.P kt) (hb : h id = some b)
    (hks : KeysOK E.P kt b.es) (hy : E.eval t y = k) (hk : KeyOK E.P kt k) (hi : b.es[i]? = some [k, v]) (hu : ∀ (j : Nat) (x : V), b.es[j]? = some [k, x] → j = i) : OpOK E o t h n [id] false v [] n :=
  OpOK.value fun c ac h2 hx' hg hrd => by
    have g1 := hx' x (by simp [ho, Op.operands])
    have g2 := hx' y (by simp [ho, Op.operands])
    rw [hx] at g1; rw [hy] at g2
    obtain ⟨p, ⟨hp, hpm⟩, hv⟩ := g1.map_inv
    obtain ⟨es, q1, q2, q3, q4, q5, q6⟩ := find_ok (hg.map (by rw [hrd id (by simp)]; exact hb) hp hpm) K hks hk g2 c.w
    rcases q6 with ⟨r1, r2⟩ | ⟨j, e, x', r1, r2, r3, r4, r5, r6⟩
    · exact absurd rfl (r2 i k v hi)
    · have hji := hu j x' r5
      subst hji
      rw [hi] at r5
      simp only [Option.some.injEq, List.cons.injEq, and_true, true_and] at r5
      subst r5
      refine ⟨e.val, ?_, r6⟩
      simp [execOp, ho, hv, Instr.lookup, run_underlying (mapP_spec hm), MapKept.run_getObj_map q1, q4, r1, Result.andThen]

theorem op_lookup_miss {ty kt et : TypeId} {x y : Operand} {id : Nat} {b : Blk} {k v : V} {z : Value} (ho : o.op = .lookup ty x y false) (hx : E.eval t x = .map id) (hm : mapP E.P ty = some (kt, et)) (K : WideMaps.KeyLaw E.P kt) (hb : h id = some b)
    (hks : KeysOK E.P kt b.es) (hy : E.eval t y = k) (hk : KeyOK E.P kt k) (hno : ∀ (j : Nat) (k' x : V), b.es[j]? = some [k', x] → k' ≠ k) (hz : zeroC E.P et = some z) (hzv : V.ofConst z = v) : OpOK E o t h n [id] false v [] n :=
  OpOK.value fun c ac h2 hx' hg hrd => by
    have g1 := hx' x (by simp [ho, Op.operands])
    have g2 := hx' y (by simp [ho, Op.operands])
    rw [hx] at g1; rw [hy] at g2
    obtain ⟨p, ⟨hp, hpm⟩, hv⟩ := g1.map_inv
    obtain ⟨es, q1, q2, q3, q4, q5, q6⟩ := find_ok (hg.map (by rw [hrd id (by simp)]; exact hb) hp hpm) K hks hk g2 c.w
    rcases q6 with ⟨r1, r2⟩ | ⟨j, e, x', r1, r2, r3, r4, r5, r6⟩
    · refine ⟨z, ?_, hzv ▸ ofConst_ok c z⟩
      simp [execOp, ho, hv, Instr.lookup, run_underlying (mapP_spec hm), MapKept.run_getObj_map q1, q4, r1, zeroC_run hz, Result.andThen]
    · exact absurd rfl (hno j k x' r5)

/-- A map's block is another one. -/
def Cx.setMap (c : Cx) (p : Place) (o : Obj) : Cx := { c with w := { c.w with heap := c.w.heap.setIfInBounds p.b o } }

theorem Good.setMap {c : Cx} {h : Heap} (hg : Good E c h) {id : Nat} {b b' : Blk} {p : Place} {o : Obj} (hb : h id = some b) (hp : c.ρ id = some p) (hm : p.m = true)
    (hM : Ext c (c.setMap p o) → MapAt (c.setMap p o) p b') : Ext c (c.setMap p o) ∧ Good E (c.setMap p o) (upd h id (some b')) := by
  have hlt := (hg.own id p hp).2
  have hne : ∀ k, k ≠ p.b → (c.setMap p o).w.heap[k]? = c.w.heap[k]? := fun k hk => by
    simp [Cx.setMap, Array.getElem?_setIfInBounds_ne (Ne.symm hk)]
  have hsz : (c.setMap p o).w.heap.size = c.w.heap.size := by simp [Cx.setMap]
  have hx : Ext c (c.setMap p o) := by
    refine ⟨rfl, fun _ _ h => h, fun _ h => h, fun k hk => hne k (fun e => hg.sep id b p hb hp (e ▸ hk)), ⟨rfl, rfl, rfl, by rw [hsz]; exact Nat.le_refl _, fun k hk => hne k (fun e => by have := (hg.own id p hp).1; omega)⟩⟩
  refine ⟨hx, fun i x hi => ?_, fun i i' x x' r r' hi hi' hr hr' he => ?_, fun k hk => by rw [hsz]; exact hg.imm k hk, fun i x r hi hr => ?_, fun i r hr => by rw [hsz]; exact hg.own i r hr, by rw [hsz]; exact hg.base, fun g cs hgc => (hg.glob g cs hgc).mono hx⟩
  · by_cases h1 : i = id
    · subst h1
      simp only [upd_same, Option.some.injEq] at hi
      subst hi
      exact ⟨p, hp, (fun h' => absurd (h'.symm.trans hm) (by simp)), fun _ => hM hx⟩
    · rw [upd_ne _ _ h1] at hi
      obtain ⟨r, g1, g2, g3⟩ := hg.blk i x hi
      have hk := hne r.b (fun e => h1 (hg.inj i id x b r p hi hb g1 hp e))
      exact ⟨r, g1, fun hm => (g2 hm).mono hx hk, fun hm => (g3 hm).mono hx hk⟩
  · have key : ∀ i x, (upd h id (some b')) i = some x → ∃ y, h i = some y := by
      intro i x hi
      by_cases h1 : i = id
      · subst h1; exact ⟨_, hb⟩
      · rw [upd_ne _ _ h1] at hi; exact ⟨_, hi⟩
    obtain ⟨y, k1⟩ := key i x hi
    obtain ⟨y', k2⟩ := key i' x' hi'
    exact hg.inj i i' y y' r r' k1 k2 hr hr' he
  · by_cases h1 : i = id
    · subst h1; exact hg.sep i b r hb hr
    · rw [upd_ne _ _ h1] at hi; exact hg.sep i x r hi hr

theorem op_makeMap {ty : TypeId} (ho : o.op = .makeMap ty none) : OpOK E o t h n [] false (.map n) [(n, some ⟨[], 0, ty⟩)] (n + 1) := by
  intro c a h2 K Q hd hx hg hrd _ hf hK
  have hn : c.ρ n = none := hf n (Nat.le_refl _) (by omega)
  let c' : Cx := { c with ρ := upd c.ρ n (some ⟨c.w.heap.size, 0, 0, 0, true⟩), w := c.w.alloc (.map #[] 0) }
  have hex : (execOp a.eval o).run E.P c.w = .ok (.value (.map (some c.w.heap.size))) c'.w := by
    simp [execOp, ho, Instr.makeMap, c']
  unfold Oper.wp
  rw [hex, Oper.upon_value]
  have hold : ∀ k, k < c.w.heap.size → c'.w.heap[k]? = c.w.heap[k]? := fun k hk => Below.heap_alloc _ _ _ hk
  have hsz : c'.w.heap.size = c.w.heap.size + 1 := by simp [c', World.size_alloc]
  have hxt : Ext c c' := by
    refine ⟨rfl, fun id p hp => ?_, fun b hb => hb, fun b hb => hold b (hg.imm b hb), (Below.refl _ _).alloc hg.base _⟩
    have : id ≠ n := fun e => by rw [e, hn] at hp; cases hp
    simp only [c', upd_ne _ _ this, hp]
  have key : ∀ id, id ≠ n → c'.ρ id = c.ρ id := fun id hi => by simp only [c', upd_ne _ _ hi]
  have hself : c'.ρ n = some ⟨c.w.heap.size, 0, 0, 0, true⟩ := by simp [c']
  refine hK c' _ hxt ?_ (fun id hid => ?_) (.map n _ hself rfl)
  · show Good E c' (upd h2 n (some ⟨[], 0, ty⟩))
    refine ⟨fun id b hb => ?_, fun id id' b b' p p' hb hb' hp hp' he => ?_, fun b hb => ?_, fun id b p hb hp => ?_, fun id p hp => ?_, ?_, fun g cs hgc => (hg.glob g cs hgc).mono hxt⟩
    · by_cases hi : id = n
      · subst hi
        simp only [upd_same, Option.some.injEq] at hb
        subst hb
        exact ⟨_, hself, fun h => by simp at h, fun _ => ⟨#[], heap_alloc_new _ _, rfl, by simp⟩⟩
      · rw [upd_ne _ _ hi] at hb
        obtain ⟨p, h1, h2', h3⟩ := hg.blk id b hb
        have hk := hold _ (hg.own id p h1).2
        exact ⟨p, hxt.rho _ _ h1, fun hm => (h2' hm).mono hxt hk, fun hm => (h3 hm).mono hxt hk⟩
    · by_cases hi : id = n <;> by_cases hi' : id' = n
      · rw [hi, hi']
      · subst hi
        rw [hself] at hp; obtain rfl := Option.some.inj hp
        rw [key _ hi'] at hp'
        have := (hg.own id' p' hp').2
        rw [← he] at this; simp at this
      · subst hi'
        rw [hself] at hp'; obtain rfl := Option.some.inj hp'
        rw [key _ hi] at hp
        have := (hg.own id p hp).2
        rw [he] at this; simp at this
      · rw [upd_ne _ _ hi] at hb
        rw [upd_ne _ _ hi'] at hb'
        rw [key _ hi] at hp
        rw [key _ hi'] at hp'
        exact hg.inj id id' b b' p p' hb hb' hp hp' he
    · have := hg.imm b hb
      rw [hsz]; omega
    · by_cases hi : id = n
      · subst hi
        rw [hself] at hp; obtain rfl := Option.some.inj hp
        intro hI
        have := hg.imm _ hI
        simp at this
      · rw [upd_ne _ _ hi] at hb
        rw [key _ hi] at hp
        exact hg.sep id b p hb hp
    · have hb := hg.base
      show c.B ≤ p.b ∧ p.b < c'.w.heap.size
      by_cases hi : id = n
      · subst hi
        rw [hself] at hp; obtain rfl := Option.some.inj hp
        rw [hsz]
        simp only; omega
      · rw [key _ hi] at hp
        have := hg.own id p hp
        rw [hsz]; omega
    · have hb := hg.base
      show c.B ≤ c'.w.heap.size
      rw [hsz]; omega
  · by_cases hi : id = n
    · exact .inr (by omega)
    · rw [key _ hi] at hid; exact .inl hid

theorem op_mapEntry_miss {ty kt et : TypeId} {x y : Operand} {id : Nat} {b : Blk} {k v : V} {z : Value} (ho : o.op = .mapEntry ty x y) (hx : E.eval t x = .map id) (hm : mapP E.P ty = some (kt, et)) (K : WideMaps.KeyLaw E.P kt) (hb : h id = some b)
    (hks : KeysOK E.P kt b.es) (hy : E.eval t y = k) (hk : KeyOK E.P kt k) (hno : ∀ (j : Nat) (k' x : V), b.es[j]? = some [k', x] → k' ≠ k) (hz : zeroC E.P et = some z) (hzv : V.ofConst z = v) :
    OpOK E o t h n [id] false (.tup [v, .int .i64 b.es.length]) [(id, some { b with es := b.es ++ [[k, v]] })] n := by
  intro c a h2 K2 Q hd hx' hg hrd _ hf hK
  have g1 := hx' x (by simp [ho, Op.operands])
  have g2 := hx' y (by simp [ho, Op.operands])
  rw [hx] at g1; rw [hy] at g2
  obtain ⟨p, ⟨hp, hpm⟩, hv⟩ := g1.map_inv
  have hb2 : h2 id = some b := by rw [hrd id (by simp)]; exact hb
  obtain ⟨es, q1, q2, q3, q4, q5, q6⟩ := find_ok (hg.map hb2 hp hpm) K hks hk g2 c.w
  rcases q6 with ⟨r1, r2⟩ | ⟨j, e, x', r1, r2, r3, r4, r5, r6⟩
  · have hex : (execOp a.eval o).run E.P c.w = .ok (.value (.tuple #[z, goInt b.es.length])) (c.setMap p (.map (es.push { key := a.eval y, val := z, born := b.es.length }) (b.es.length + 1))).w := by
      simp [execOp, ho, hv, Instr.mapEntry, run_underlying (mapP_spec hm), MapKept.run_getObj_map q1, q4, r1, zeroC_run hz, MapKept.run_setObj_map _ q1, Result.andThen, Cx.setMap]
    unfold Oper.wp
    rw [hex, Oper.upon_value]
    obtain ⟨s1, s2⟩ := hg.setMap (b' := { b with es := b.es ++ [[k, v]] }) (o := .map (es.push { key := a.eval y, val := z, born := b.es.length }) (b.es.length + 1)) hb2 hp hpm (fun hxt => by
      refine ⟨_, by simp [Cx.setMap, (hg.own id p hp).2]; rfl, by simp [q2], fun i row hr => ?_⟩
      by_cases hi : i < b.es.length
      · rw [List.getElem?_append_left hi] at hr
        obtain ⟨e, k', x', u1, u2, u3, u4, u5⟩ := q3 i row hr
        exact ⟨e, k', x', by rw [Array.getElem?_push_lt (by omega)]; rw [(Array.getElem?_eq_some_iff.1 u1).2], u2, u3, u4.mono hxt, u5.mono hxt⟩
      · have hi' : i = b.es.length := by
          have := (List.getElem?_eq_some_iff.1 hr).1
          simp at this; omega
        subst hi'
        simp only [List.getElem?_append_right (Nat.le_refl _), Nat.sub_self, List.getElem?_cons_zero, Option.some.injEq] at hr
        subst hr
        exact ⟨_, k, v, by rw [← q2, Array.getElem?_push_size], rfl, q2, g2.mono hxt, (hzv ▸ ofConst_ok c z : VR c v z).mono hxt⟩)
    refine hK _ _ s1 s2 (fun id h => .inl h) ?_
    refine .tup _ _ (by simp) fun i x u h1 h2 => ?_
    match i with
    | 0 => simp at h1 h2; subst h1; subst h2; exact (hzv ▸ ofConst_ok c z : VR c v z).mono s1
    | 1 => simp at h1 h2; subst h1; subst h2; exact .int _ _
    | i + 2 => simp at h1
  · exact absurd rfl (hno j k x' r5)

theorem op_mapEntry_hit {ty kt et : TypeId} {x y : Operand} {id i : Nat} {b : Blk} {k v : V} (ho : o.op = .mapEntry ty x y) (hx : E.eval t x = .map id) (hm : mapP E.P ty = some (kt, et)) (K : WideMaps.KeyLaw E.P kt) (hb : h id = some b)
    (hks : KeysOK E.P kt b.es) (hy : E.eval t y = k) (hk : KeyOK E.P kt k) (hi : b.es[i]? = some [k, v]) (hu : ∀ (j : Nat) (x : V), b.es[j]? = some [k, x] → j = i) :
    OpOK E o t h n [id] false (.tup [v, .int .i64 i]) [] n :=
  OpOK.value fun c ac h2 hx' hg hrd => by
    have g1 := hx' x (by simp [ho, Op.operands])
    have g2 := hx' y (by simp [ho, Op.operands])
    rw [hx] at g1; rw [hy] at g2
    obtain ⟨p, ⟨hp, hpm⟩, hv⟩ := g1.map_inv
    obtain ⟨es, q1, q2, q3, q4, q5, q6⟩ := find_ok (hg.map (by rw [hrd id (by simp)]; exact hb) hp hpm) K hks hk g2 c.w
    rcases q6 with ⟨r1, r2⟩ | ⟨j, e, x', r1, r2, r3, r4, r5, r6⟩
    · exact absurd rfl (r2 i k v hi)
    · have hji := hu j x' r5
      subst hji
      rw [hi] at r5
      simp only [Option.some.injEq, List.cons.injEq, and_true, true_and] at r5
      subst r5
      refine ⟨.tuple #[e.val, goInt j], ?_, ?_⟩
      · have hsame : es.modify j (fun e => { e with key := ac.eval y }) = es := by
          apply Array.ext
          · simp
          · intro m h1 h2'
            rw [Array.getElem_modify]
            split
            · rename_i hmj
              subst hmj
              have : es[j] = e := by simpa [Array.getElem?_eq_some_iff] using (Array.getElem?_eq_some_iff.1 r2).2
              rw [this, ← r3]
            · rfl
        have hset : { c.w with heap := c.w.heap.setIfInBounds p.b (.map es b.es.length) } = c.w := by
          have : c.w.heap.setIfInBounds p.b (.map es b.es.length) = c.w.heap := by
            apply Array.ext
            · simp
            · intro m h1 h2'
              rw [Array.getElem_setIfInBounds]
              split
              · rename_i hmj
                subst hmj
                exact (Array.getElem?_eq_some_iff.1 q1).2.symm
              · rfl
          rw [this]
        simp [execOp, ho, hv, Instr.mapEntry, run_underlying (mapP_spec hm), MapKept.run_getObj_map q1, q4, r1, r2, r3, q5, hsame, MapKept.run_setObj_map _ q1, Result.andThen, hset, r4]
      · refine .tup _ _ (by simp) fun i x u h1 h2 => ?_
        match i with
        | 0 => simp at h1 h2; subst h1; subst h2; exact r6
        | 1 => simp at h1 h2; subst h1; subst h2; exact .int _ _
        | i + 2 => simp at h1

theorem op_entryStore {ty : TypeId} {x y z : Operand} {id i : Nat} {b : Blk} {k v u : V} (ho : o.op = .entryStore ty x y z) (hx : E.eval t x = .map id) (hy : E.eval t y = .int .i64 i) (hz : E.eval t z = u) (hb : h id = some b) (hi : b.es[i]? = some [k, v]) :
    OpOK E o t h n [id] false .unk [(id, some { b with es := b.es.set i [k, u] })] n := by
  intro c a h2 K2 Q hd hx' hg hrd _ hf hK
  have g1 := hx' x (by simp [ho, Op.operands])
  have g2 := (by have := hx' y (by simp [ho, Op.operands]); rw [hy] at this; exact this.int_inv)
  have g3 := hx' z (by simp [ho, Op.operands])
  rw [hx] at g1; rw [hz] at g3
  obtain ⟨p, ⟨hp, hpm⟩, hv⟩ := g1.map_inv
  have hb2 : h2 id = some b := by rw [hrd id (by simp)]; exact hb
  obtain ⟨es, q1, q2, q3⟩ := hg.map hb2 hp hpm
  obtain ⟨e, k', v', r1, r2, r3, r4, r5⟩ := q3 i _ hi
  simp only [List.cons.injEq, and_true] at r2
  obtain ⟨rfl, rfl⟩ := r2
  have hlt : i < es.size := (Array.getElem?_eq_some_iff.1 r1).1
  have hborn : ∀ (m : Nat) (hm : m < es.size), es[m].born = m := by
    intro m hm
    obtain ⟨e', _, _, u1, _, u3, _⟩ := q3 m b.es[m] (by simp)
    have : es[m] = e' := (Array.getElem?_eq_some_iff.1 u1).2
    rw [this, u3]
  have hidx : es.findIdx? (fun e => (e.born : Int) == (i : Int)) = some i := by
    rw [Array.findIdx?_eq_some_iff_getElem]
    refine ⟨hlt, ?_, fun m hm => ?_⟩
    · simp [hborn i hlt]
    · simp [hborn m (by omega)]; omega
  have hex : (execOp a.eval o).run E.P c.w = .ok .skip (c.setMap p (.map (es.modify i fun e => { e with val := a.eval z }) b.es.length)).w := by
    simp [execOp, ho, hv, g2, Instr.entryStore, MapKept.run_getObj_map q1, asInt, asIntOf, hidx, MapKept.run_setObj_map _ q1, Result.andThen, Cx.setMap]
  unfold Oper.wp
  rw [hex, Oper.upon_skip]
  obtain ⟨s1, s2⟩ := hg.setMap (b' := { b with es := b.es.set i [k, u] }) (o := .map (es.modify i fun e => { e with val := a.eval z }) b.es.length) hb2 hp hpm (fun hxt => by
    refine ⟨_, by simp [Cx.setMap, (hg.own id p hp).2]; rfl, by simp [q2], fun m row hr => ?_⟩
    by_cases hm : m = i
    · subst hm
      simp only [List.getElem?_set_self (by omega : m < b.es.length), Option.some.injEq] at hr
      subst hr
      exact ⟨{ e with val := a.eval z }, k, u, by simp [Array.getElem?_modify, r1], rfl, r3, r4.mono hxt, g3.mono hxt⟩
    · rw [List.getElem?_set_ne (Ne.symm hm)] at hr
      obtain ⟨e', k', x', u1, u2, u3, u4, u5⟩ := q3 m row hr
      exact ⟨e', k', x', by simp [Array.getElem?_modify, Ne.symm hm, u1], u2, u3, u4.mono hxt, u5.mono hxt⟩)
  exact hK _ _ s1 s2 (fun id h => .inl h) (.unk _)
end ops

/-! Functions of which it is said that there is a result. -/
theorem Pure.of_wpX {E : Env} {f : FuncId} {fn : Func} {k : Code} {args : List A} {α : Type} {p : α → Prop} {R : α → List A} (hf : E.P.funcs[f]? = some fn) (hb : fn.body = some k) (hn : args.length ≤ fn.ntmps)
    (w : WP E fn.ntmps k (fun i => ((args.map (A.toV false))[i]?).getD .unk) (fun _ => none) 0 (fun x t h n => ∃ a, p a ∧ FinOK E fn (R a) x t h n)) (hnm : (fn.name != "runtime.NumGoroutine") = true := by rfl) : ∃ a, p a ∧ Pure E f args (R a) := by
  unfold WP at w
  obtain ⟨x, t', h', n', e, a, hp, hq⟩ := w
  exact ⟨a, hp, Pure.of_wp hf hb hn (by unfold WP; exact ⟨x, t', h', n', e, hq⟩) hnm⟩
theorem Open.of_wpX {E : Env} {f : FuncId} {fn : Func} {k : Code} {args : List V} {h : Heap} {n : Nat} {α : Type} {p : α → Prop} {v : α → V} {wr : α → List (Nat × Option Blk)} {m : α → Nat} (hf : E.P.funcs[f]? = some fn) (hb : fn.body = some k) (hn : args.length ≤ fn.ntmps)
    (w : WP E fn.ntmps k (fun i => (args[i]?).getD .unk) h n (fun x t' h' n' => ∃ a, p a ∧ OpenFin E fn (v a) h n (wr a) (m a) x t' h' n')) (hnm : (fn.name != "runtime.NumGoroutine") = true := by rfl) : ∃ a, p a ∧ Open E f args h n (v a) (wr a) (m a) := by
  unfold WP at w
  obtain ⟨x, t', h', n', e, a, hp, hq⟩ := w
  exact ⟨a, hp, Open.of_wp hf hb hn (by unfold WP; exact ⟨x, t', h', n', e, hq⟩) hnm⟩
end Go.V
