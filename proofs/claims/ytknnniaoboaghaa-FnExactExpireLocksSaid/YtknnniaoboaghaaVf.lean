/- A logic over abstract states: the operations that make, read or write memory. No conditions. -/
import Derived.Test.YtknnniaoboaghaaVe
namespace Go.V
open Go.RowKit (Below)
set_option linter.unusedSimpArgs false
set_option linter.unusedVariables false

/-- An operation that makes one block. -/
theorem OpOK.makes {E : Env} {o : Oper} {t : Nat → V} {h : Heap} {n : Nat} {v : V} {es : List (List V)} {sz : Nat} {ty : TypeId} (hsz : ∀ e ∈ es, e.length = sz)
    (H : ∀ (c : Cx) (a : Act) (h2 : Heap), (∀ x ∈ o.op.operands, VR c (E.eval t x) (a.eval x)) → Good E c h2 →
      ∃ (cells : Array Value) (v' : Value), (execOp a.eval o).run E.P c.w = .ok (.value v') (c.w.alloc (.cells cells ty)) ∧ es.length * sz = cells.size ∧
        (∀ i j x, get2 es i j = some x → ∃ u, cells[i * sz + j]? = some u ∧ VR c x u ∧ u.oneCell' = true) ∧ (∀ c' : Cx, c'.ρ n = some ⟨c.w.heap.size, 0, cells.size, sz, false⟩ → VR c' v v')) :
    OpOK E o t h n [] false v [(n, some ⟨es, sz, ty⟩)] (n + 1) := by
  intro c a h2 K Q hd hx hg hrd _ hf hK
  obtain ⟨cells, v', hrun, hl, hc, hv⟩ := H c a h2 hx hg
  have hn : c.ρ n = none := hf n (Nat.le_refl _) (by omega)
  unfold Oper.wp
  rw [hrun, Oper.upon_value]
  refine hK (c.new n cells ty sz) v' (Cx.new_ext hg hn cells ty sz) (Good.new hg hn cells ty sz es (Nat.le_of_eq hl) hsz fun i j x hx' => ?_) (new_dom c n cells ty sz) (hv _ (by simp [Cx.new]))
  obtain ⟨u, h1, h2, h3⟩ := hc i j x hx'
  exact ⟨u, h1, h2.mono (Cx.new_ext hg hn cells ty sz), h3⟩

/-- The zero value's cells. -/
def zeroV (P : Program) (ty : TypeId) : Option (List V) := ((P.info? ty).bind (·.zero)).map fun z => z.cells.toList.map V.ofConst

theorem zeroV_run {P : Program} {ty : TypeId} {zs : List V} (h : zeroV P ty = some zs) : ∃ z : Value, (∀ w, (zeroValue ty).run P w = .ok z w) ∧ zs = z.cells.toList.map V.ofConst := by
  unfold zeroV at h
  cases hi : P.info? ty with
  | none => simp [hi] at h
  | some i =>
    cases hz : i.zero with
    | none => simp [hi, hz] at h
    | some z =>
      simp only [hi, Option.bind_some, hz, Option.map_some, Option.some.injEq] at h
      exact ⟨z, fun w => by simp [zeroValue, typeInfo, hi, hz], h.symm⟩

theorem get2_one {cs : List V} {i j : Nat} {x : V} (h : get2 [cs] i j = some x) : i = 0 ∧ cs[j]? = some x := by
  cases i with
  | zero => exact ⟨rfl, by simpa [get2] using h⟩
  | succ i => simp [get2] at h

section ops
variable {E : Env} {o : Oper} {t : Nat → V} {h : Heap} {n : Nat}

theorem op_alloc {ty : TypeId} {zs : List V} (ho : o.op = .alloc ty) (hz : zeroV E.P ty = some zs) (hc : zs.all V.cell = true) : OpOK E o t h n [] false (.ptr n 0 0) [(n, some ⟨[zs], zs.length, ty⟩)] (n + 1) := by
  obtain ⟨z, hrun, rfl⟩ := zeroV_run hz
  refine OpOK.makes (by simp) fun c a h2 hx hg => ⟨z.cells, .pointer (some ⟨c.w.heap.size, 0, none⟩), ?_, by simp, fun i j x hg2 => ?_, fun c' hc' => ?_⟩
  · simp [execOp, ho, Instr.alloc, hrun, newVar, newRow]
  · obtain ⟨rfl, h1⟩ := get2_one hg2
    simp only [List.getElem?_map, Array.getElem?_toList] at h1
    cases hc' : z.cells[j]? with
    | none => simp [hc'] at h1
    | some u =>
      simp only [hc', Option.map_some, Option.some.injEq] at h1
      subst h1
      have hlt := (Array.getElem?_eq_some_iff.1 hc').1
      exact ⟨u, by simpa using hc', ofConst_ok c u, (ofConst_ok c u).oneCell ((List.all_eq_true.1 hc) _ (List.mem_map.2 ⟨u, by simpa using Array.mem_of_getElem? hc', rfl⟩))⟩
  · simpa using VR.ptr (c := c') n 0 0 _ hc'

theorem op_box {ty : TypeId} {x : Operand} (ho : o.op = .box ty x) (hk : (E.eval t x).known = true) (hc : (E.eval t x).cells.all V.cell = true) :
    OpOK E o t h n [] false (.ptr n 0 0) [(n, some ⟨[(E.eval t x).cells], (E.eval t x).cells.length, ty⟩)] (n + 1) := by
  refine OpOK.makes (by simp) fun c a h2 hx hg => ?_
  have h1 := (hx x (by simp [ho, Op.operands])).cells hk
  refine ⟨(a.eval x).cells, .pointer (some ⟨c.w.heap.size, 0, none⟩), ?_, by simp [h1.1], fun i j y hg2 => ?_, fun c' hc' => ?_⟩
  · simp [execOp, ho, Instr.box, newVar, newRow]
  · obtain ⟨rfl, h3⟩ := get2_one hg2
    have hlt : j < (a.eval x).cells.size := by rw [h1.1]; exact (List.getElem?_eq_some_iff.1 h3).1
    exact ⟨(a.eval x).cells[j], by simp [hlt], h1.2 j y _ h3 (by simp [hlt]), (h1.2 j y _ h3 (by simp [hlt])).oneCell ((List.all_eq_true.1 hc) y (List.mem_of_getElem? h3))⟩
  · simpa using VR.ptr (c := c') n 0 0 _ hc'

/-! Loads. -/

/-- Of a type: is it a struct or an array, and how many cells has it? -/
def rowP (P : Program) (ty : TypeId) : Option (Bool × Nat) :=
  match P.underlying ty, P.info? ty with
  | some d, some i => some (d.isRow, i.size)
  | _, _ => none

theorem rowP_spec {P : Program} {ty : TypeId} {r : Bool} {k : Nat} (h : rowP P ty = some (r, k)) : ∃ d, P.underlying ty = some d ∧ d.isRow = r ∧ (P.info? ty).map (·.size) = some k := by
  unfold rowP at h
  cases hu : P.underlying ty with
  | none => simp [hu] at h
  | some d =>
    cases hi : P.info? ty with
    | none => simp [hu, hi] at h
    | some i =>
      simp only [hu, hi, Option.some.injEq, Prod.mk.injEq] at h
      exact ⟨d, rfl, h.1, by simp [h.2]⟩

theorem run_load_cell {P : Program} {w : World} {ty : TypeId} {d : TypeDesc} {b o : Nat} {v : Value} (hu : P.underlying ty = some d) (hd : d.isRow = false) (hc : w.cell? ⟨b, o, none⟩ = some v) :
    (Instr.loadAt ty (.pointer (some ⟨b, o, none⟩))).run P w = .ok v w := by
  have hagg : (isAgg ty).run P w = .ok false w := by
    unfold isAgg
    rw [Sem.run_bind, run_underlying hu w]
    cases d <;> simp_all
  simp [Instr.loadAt, Instr.sureAddr, loadVar, hagg, run_load, hc]

theorem op_load_row {ty : TypeId} {x : Operand} {id i j k : Nat} {b : Blk} {cs : List V} (ho : o.op = .load ty x) (hx : E.eval t x = .ptr id i j) (hb : h id = some b) (hi : b.es[i]? = some cs)
    (hr : rowP E.P ty = some (true, k)) (hl : j + k ≤ cs.length) : OpOK E o t h n [id] false (.agg ((cs.drop j).take k)) [] n :=
  OpOK.value fun c a h2 hx' hg hrd => by
    have h1 := hx' x (by simp [ho, Op.operands])
    rw [hx] at h1
    obtain ⟨p, ⟨hp, hpm⟩, hv⟩ := h1.ptr_inv
    obtain ⟨d, hu, hd, hs⟩ := rowP_spec hr
    obtain ⟨vs, hvl, hrange, hvr, _⟩ := hg.range (by rw [hrd id (by simp)]; exact hb) hp hpm hi j k hl
    refine ⟨.agg vs.toArray, ?_, .agg _ _ (by simp [hvl]; omega) fun m y u h3 h4 => hvr m y u h3 (by simpa using h4)⟩
    have := run_loadAt_mid (P := E.P) c.w p.b (p.o + i * p.sz + j) ty vs d hrange hu hd (by rw [hs, hvl])
    simp [execOp, ho, hv, this]

theorem op_load_cell {ty : TypeId} {x : Operand} {id i j k : Nat} {b : Blk} {cs : List V} {v : V} (ho : o.op = .load ty x) (hx : E.eval t x = .ptr id i j) (hb : h id = some b) (hi : b.es[i]? = some cs)
    (hr : rowP E.P ty = some (false, k)) (hl : cs[j]? = some v) : OpOK E o t h n [id] false v [] n :=
  OpOK.value fun c a h2 hx' hg hrd => by
    have h1 := hx' x (by simp [ho, Op.operands])
    rw [hx] at h1
    obtain ⟨p, ⟨hp, hpm⟩, hv⟩ := h1.ptr_inv
    obtain ⟨d, hu, hd, hs⟩ := rowP_spec hr
    have hlt : j + 1 ≤ cs.length := (List.getElem?_eq_some_iff.1 hl).1
    obtain ⟨vs, hvl, hrange, hvr, _⟩ := hg.range (by rw [hrd id (by simp)]; exact hb) hp hpm hi j 1 hlt
    have hlt' : 0 < vs.length := by omega
    refine ⟨vs[0], ?_, hvr 0 v _ ?_ (by simp [hlt'])⟩
    · have := run_load_cell (P := E.P) (w := c.w) (b := p.b) (o := p.o + i * p.sz + j) (v := vs[0]) hu hd (by have := hrange 0 vs[0] (by simp [hlt']); simpa using this)
      simp [execOp, ho, hv, this]
    · rw [List.getElem?_take_of_lt (by omega), List.getElem?_drop]; simpa using hl

theorem op_load_irow {ty : TypeId} {x : Operand} {fr : Bool} {k : Nat} {cs : List T} (ho : o.op = .load ty x) (hx : E.eval t x = .iptr fr cs)
    (hr : rowP E.P ty = some (true, k)) (hl : k ≤ cs.length) : OpOK E o t h n [] false (.agg ((cs.take k).map (T.toV fr))) [] n :=
  OpOK.value fun c a h2 hx' hg hrd => by
    have h1 := hx' x (by simp [ho, Op.operands])
    rw [hx] at h1
    generalize hw : a.eval x = w at h1
    cases h1 with
    | iptr _ _ b off rd hI hrd hsub =>
      obtain ⟨d, hu, hd, hs⟩ := rowP_spec hr
      have hlt : ∀ m, m < k → cs[m]? = some (cs.getD m .nilp) := fun m hm => by
        have : m < cs.length := by omega
        simp [this]
      refine ⟨.agg ((List.range k).map rd).toArray, ?_, .agg _ _ (by simp; omega) fun m y u h3 h4 => ?_⟩
      · have := run_loadAt_mid (P := E.P) c.w b off ty ((List.range k).map rd) d (fun m v hm => by
          have hmk : m < k := by
            have := (List.getElem?_eq_some_iff.1 hm).1
            simpa using this
          simp only [List.getElem?_map, List.getElem?_range hmk, Option.map_some, Option.some.injEq] at hm
          subst hm
          exact hrd m _ (hlt m hmk)) hu hd (by rw [hs]; simp)
        simp [execOp, ho, hw, this]
      · have hmk : m < k := by
          have := (List.getElem?_eq_some_iff.1 h3).1
          simp at this; omega
        simp only [List.getElem?_map, List.getElem?_take_of_lt hmk, hlt m hmk, Option.map_some, Option.some.injEq] at h3
        simp only [List.getElem?_toArray, List.getElem?_map, List.getElem?_range hmk, Option.map_some, Option.some.injEq] at h4
        subst h3; subst h4
        exact (hsub m _ (hlt m hmk)).toV

theorem op_load_icell {ty : TypeId} {x : Operand} {fr : Bool} {k : Nat} {cs : List T} {y : T} (ho : o.op = .load ty x) (hx : E.eval t x = .iptr fr cs)
    (hr : rowP E.P ty = some (false, k)) (hl : cs[0]? = some y) : OpOK E o t h n [] false (y.toV fr) [] n :=
  OpOK.value fun c a h2 hx' hg hrd => by
    have h1 := hx' x (by simp [ho, Op.operands])
    rw [hx] at h1
    generalize hw : a.eval x = w at h1
    cases h1 with
    | iptr _ _ b off rd hI hrd hsub =>
      obtain ⟨d, hu, hd, hs⟩ := rowP_spec hr
      refine ⟨rd 0, ?_, (hsub 0 y hl).toV⟩
      have := run_load_cell (P := E.P) (w := c.w) (b := b) (o := off) (v := rd 0) hu hd (by simpa using hrd 0 y hl)
      simp [execOp, ho, hw, this]

/-! Stores. -/

theorem run_store_any {P : Program} {w : World} {b o : Nat} {ty : TypeId} {v : Value} (ht : w.there b o v.cells.size) (hi : (P.info? ty).map (·.size) = some v.cells.size) (h1 : ∀ u ∈ v.cells.toList, u.oneCell' = true) :
    (Instr.storeAt ty (.pointer (some ⟨b, o, none⟩)) v).run P w = .ok () (w.setCells b o v.cells.toList) := by
  have := run_storeCells_cells (P := P) b o v.cells.toList 0 w (fun j hj => by simpa using (ht j (by simpa using hj)).1) (fun j hj => by simpa using (ht j (by simpa using hj)).2) h1
  cases hq : P.info? ty with
  | none => simp [hq] at hi
  | some i =>
    have hs : v.cells.size = i.size := by simp [hq] at hi; omega
    simp only [Nat.add_zero] at this
    simp [Instr.storeAt, Instr.sureAddr, storeVar, sizeOf, typeInfo, hq, hs, this]

theorem op_store {ty : TypeId} {x y : Operand} {id i j k : Nat} {b : Blk} {cs : List V} {r : Bool} (ho : o.op = .store ty x y) (hx : E.eval t x = .ptr id i j) (hb : h id = some b) (hi : b.es[i]? = some cs)
    (hr : rowP E.P ty = some (r, k)) (hk : (E.eval t y).known = true) (hkl : (E.eval t y).cells.length = k) (hc : (E.eval t y).cells.all V.cell = true) (hl : j + k ≤ cs.length) :
    OpOK E o t h n [id] false .unk [(id, some { b with es := b.es.set i (splice cs j (E.eval t y).cells) })] n := by
  intro c a h2 K Q hd hx' hg hrd _ hf hK
  have h1 := hx' x (by simp [ho, Op.operands])
  rw [hx] at h1
  obtain ⟨p, ⟨hp, hpm⟩, hv⟩ := h1.ptr_inv
  obtain ⟨d, hu, hdr, hs⟩ := rowP_spec hr
  have hb2 : h2 id = some b := by rw [hrd id (by simp)]; exact hb
  have hy := (hx' y (by simp [ho, Op.operands])).cells hk
  have hth := hg.there hb2 hp hpm hi j k hl
  have hone : ∀ u ∈ (a.eval y).cells.toList, u.oneCell' = true := (fun u hu => by
    obtain ⟨m, hm⟩ := List.getElem?_of_mem hu
    have hm' : (a.eval y).cells[m]? = some u := by simpa using hm
    have hlt : m < (E.eval t y).cells.length := by
      rw [← hy.1]
      exact (Array.getElem?_eq_some_iff.1 hm').1
    have hxm : (E.eval t y).cells[m]? = some (E.eval t y).cells[m] := by simp [hlt]
    exact (hy.2 m _ u hxm hm').oneCell ((List.all_eq_true.1 hc) _ (List.getElem_mem hlt)))
  have hrun := run_store_any (P := E.P) (w := c.w) (b := p.b) (o := p.o + i * p.sz + j) (ty := ty) (v := a.eval y) (by rw [hy.1, hkl]; exact hth) (by rw [hs, hy.1, hkl]) hone
  obtain ⟨cells, fz, q2, _⟩ := hg.cells hb2 hp hpm
  unfold Oper.wp
  have : (execOp a.eval o).run E.P c.w = .ok .skip (c.set p.b (p.o + i * b.sz + j) (a.eval y).cells.toList).w := by
    rw [q2] at hrun
    simp [execOp, ho, hv, q2, hrun, Cx.set]
  rw [this, Oper.upon_skip]
  refine hK _ undef (Cx.set_ext hg hb2 hp _ _) ?_ (fun id h => .inl h) (.unk _)
  exact Good.store hg hb2 hp hpm i j cs (E.eval t y).cells (a.eval y).cells.toList hi (by rw [hkl]; exact hl) (by simp [hy.1]) (fun m y' u h3 h4 => hy.2 m y' u h3 (by simpa using h4)) hone

/-! Addresses and parts. -/

/-- A struct's field: where it begins, and whether it takes any room. -/
def fieldP (P : Program) (ty : TypeId) (f : Nat) : Option (Nat × Nat × Bool) :=
  match P.underlying ty with
  | some (.struct fs) => match fs[f]? with
    | some fd => match P.underlying fd.type, P.info? fd.type with
      | some d, some i => some (fd.offset, i.size, d.isRow)
      | _, _ => none
    | none => none
  | _ => none

theorem fieldP_spec {P : Program} {ty : TypeId} {f off k : Nat} {r : Bool} (h : fieldP P ty f = some (off, k, r)) :
    ∃ fs fd d i, P.underlying ty = some (.struct fs) ∧ fs[f]? = some fd ∧ fd.offset = off ∧ P.underlying fd.type = some d ∧ d.isRow = r ∧ P.info? fd.type = some i ∧ i.size = k := by
  unfold fieldP at h
  split at h
  · rename_i fs hu
    split at h
    · rename_i fd hf
      split at h
      · rename_i d i hd hi
        simp only [Option.some.injEq, Prod.mk.injEq] at h
        exact ⟨fs, fd, d, i, hu, hf, h.1, hd, h.2.2, hi, h.2.1⟩
      · cases h
    · cases h
  · cases h

theorem run_fieldAt {P : Program} {w : World} {ty : TypeId} {f off k b o : Nat} {r : Bool} (h : fieldP P ty f = some (off, k, r)) (hk : k ≠ 0) :
    (Instr.fieldAt ty (.pointer (some ⟨b, o, none⟩)) f).run P w = .ok (.pointer (some ⟨b, o + off, none⟩)) w := by
  obtain ⟨fs, fd, d, i, h1, h2, h3, h4, h5, h6, h7⟩ := fieldP_spec h
  have h0 : ¬ i.size = 0 := by omega
  simp [Instr.fieldAt, run_underlying h1, h2, Instr.sureAddr, fieldPlace, sizeOf, typeInfo, h6, h0, Addr.add_mid, h3]

theorem op_fieldAddr {ty : TypeId} {x : Operand} {f off k id i j : Nat} {r : Bool} (ho : o.op = .fieldAddr ty x f) (hx : E.eval t x = .ptr id i j) (hf : fieldP E.P ty f = some (off, k, r)) (hk : k ≠ 0) :
    OpOK E o t h n [] false (.ptr id i (j + off)) [] n :=
  OpOK.value fun c a h2 hx' hg hrd => by
    have h1 := hx' x (by simp [ho, Op.operands])
    rw [hx] at h1
    obtain ⟨p, ⟨hp, hpm⟩, hv⟩ := h1.ptr_inv
    refine ⟨.pointer (some ⟨p.b, p.o + i * p.sz + (j + off), none⟩), ?_, .ptr _ _ _ _ hp⟩
    simp [execOp, ho, hv, run_fieldAt hf hk, Nat.add_assoc]

theorem op_fieldAddr_i {ty : TypeId} {x : Operand} {f off k : Nat} {fr r : Bool} {cs : List T} (ho : o.op = .fieldAddr ty x f) (hx : E.eval t x = .iptr fr cs) (hf : fieldP E.P ty f = some (off, k, r)) (hk : k ≠ 0) :
    OpOK E o t h n [] false (.iptr fr (cs.drop off)) [] n :=
  OpOK.value fun c a h2 hx' hg hrd => by
    have h1 := hx' x (by simp [ho, Op.operands])
    rw [hx] at h1
    generalize hw : a.eval x = w at h1
    cases h1 with
    | iptr _ _ b off' rd hI hrd hsub =>
      refine ⟨.pointer (some ⟨b, off' + off, none⟩), by simp [execOp, ho, hw, run_fieldAt hf hk], .iptr fr _ b _ (fun m => rd (off + m)) hI (fun m y hm => ?_) fun m y hm => ?_⟩
      · rw [List.getElem?_drop] at hm
        rw [Nat.add_assoc]; exact hrd (off + m) y hm
      · rw [List.getElem?_drop] at hm
        exact hsub (off + m) y hm

/-- A part of a struct's cells: a struct of its own, or one cell. -/
def partV (cs : List V) (off k : Nat) (r : Bool) : Option V := if r then some (.agg ((cs.drop off).take k)) else cs[off]?

/-- Of a slice's type: its elements' type and the cells of one; of an array's besides how many. -/
def sliceP (P : Program) (ty : TypeId) : Option (TypeId × Nat) :=
  match P.underlying ty with
  | some (.slice e) => (P.info? e).map fun i => (e, i.size)
  | _ => none

theorem sliceP_spec {P : Program} {ty e : TypeId} {k : Nat} (h : sliceP P ty = some (e, k)) : P.underlying ty = some (.slice e) ∧ ∃ i, P.info? e = some i ∧ i.size = k := by
  unfold sliceP at h
  split at h
  · rename_i e' hu
    cases hi : P.info? e' with
    | none => simp [hi] at h
    | some i =>
      simp only [hi, Option.map_some, Option.some.injEq, Prod.mk.injEq] at h
      obtain ⟨rfl, rfl⟩ := h
      exact ⟨hu, i, hi, rfl⟩
  · cases h

theorem op_index_view {ty e : TypeId} {x y : Operand} {k : IntKind} {m : Int} {id off len sz : Nat} {b : Blk} (ho : o.op = .indexAddr ty x y) (hx : E.eval t x = .view id off len) (hy : E.eval t y = .int k m)
    (hs : sliceP E.P ty = some (e, sz)) (hb : h id = some b) (hbz : b.sz = sz) (h0 : 0 ≤ m) (h1 : m < len) : OpOK E o t h n [id] false (.ptr id (off + m.toNat) 0) [] n :=
  OpOK.value fun c a h2 hx' hg hrd => by
    have g1 := hx' x (by simp [ho, Op.operands])
    have g2 := (by have := hx' y (by simp [ho, Op.operands]); rw [hy] at this; exact this.int_inv)
    rw [hx] at g1
    obtain ⟨hu, i, hi, hiz⟩ := sliceP_spec hs
    generalize hw : a.eval x = w at g1
    cases g1 with
    | view _ _ _ p off' cap hp hof hlc hpm =>
      obtain ⟨cells, fz, q2, _⟩ := hg.cells (by rw [hrd id (by simp)]; exact hb) hp hpm
      have hcap : ¬ cap = 0 := by omega
      obtain ⟨e1, e2⟩ := hof.resolve_left hcap
      refine ⟨.pointer (some ⟨p.b, p.o + (off + m.toNat) * p.sz + 0, none⟩), ?_, .ptr _ _ _ _ hp⟩
      have hpz : p.sz = i.size := by rw [q2, hbz, hiz]
      have hel : E.P.elem ty = e := by simp [Program.elem, hu]
      simp only [execOp, ho, hw, g2]
      simp [run_indexAt_slice _ _ _ _ _ _ _ (by rw [hel]; exact hu), h0, h1, hel, sizeOf, typeInfo, hi, Addr.add_mid, e1, hpz, Nat.add_mul, Nat.add_assoc]

theorem op_index_sl {ty e : TypeId} {x y : Operand} {k : IntKind} {m : Int} {fr nn : Bool} {sz : Nat} {es : List (List T)} {cs : List T} (ho : o.op = .indexAddr ty x y) (hx : E.eval t x = .sl fr nn es) (hy : E.eval t y = .int k m)
    (hs : sliceP E.P ty = some (e, sz)) (h0 : 0 ≤ m) (hi : es[m.toNat]? = some cs) (hcl : cs.length = sz) : OpOK E o t h n [] false (.iptr fr cs) [] n :=
  OpOK.value fun c a h2 hx' hg hrd => by
    have g1 := hx' x (by simp [ho, Op.operands])
    have g2 := (by have := hx' y (by simp [ho, Op.operands]); rw [hy] at this; exact this.int_inv)
    rw [hx] at g1
    obtain ⟨hu, i, hi', hiz⟩ := sliceP_spec hs
    generalize hw : a.eval x = w at g1
    have hlt : m.toNat < es.length := (List.getElem?_eq_some_iff.1 hi).1
    cases g1 with
    | sl _ _ _ _ g1 =>
      cases g1 with
      | sl _ _ A len cap sz' rd hlen hcap hnil hI hsz hrd' hsub =>
        cases A with
        | none => have := (hnil rfl).2.1; subst this; simp at hlt
        | some A =>
          obtain ⟨b, off, sp⟩ := A
          have hne : es ≠ [] := fun e => by subst e; simp at hlt
          obtain ⟨hsp, hIb⟩ := hI _ rfl hne
          simp only at hsp hIb
          subst hsp
          have hsz' : sz' = sz := by rw [← hsz cs (List.mem_of_getElem? hi)]; exact hcl
          subst hsz'
          have hlm : m < len := by rw [hlen]; omega
          refine ⟨.pointer (some ⟨b, off + m.toNat * sz', none⟩), ?_, .iptr fr cs b _ (fun j => rd m.toNat j) hIb (fun j y hj => ?_) fun j y hj => ?_⟩
          · have hel : E.P.elem ty = e := by simp [Program.elem, hu]
            simp only [execOp, ho, hw, g2]
            simp [run_indexAt_slice _ _ _ _ _ _ _ (by rw [hel]; exact hu), h0, hlm, hel, sizeOf, typeInfo, hi', Addr.add_mid, hiz]
          · exact hrd' _ m.toNat j y rfl (by simp [get2, hi, hj])
          · exact hsub m.toNat j y (by simp [get2, hi, hj])

/-- A byte of a string. -/
def bt (s : ByteArray) (i : Nat) : Int := (s.data.toList[i]?.getD 0).toNat

theorem bt_eq {s : ByteArray} {i : Nat} (h : i < s.size) : bt s i = (s[i].toNat : Int) := by
  have h' : i < s.data.size := h
  unfold bt
  rw [Array.getElem?_toList, Array.getElem?_eq_getElem h']
  rfl

theorem op_index_str {ty : TypeId} {x y : Operand} {k : IntKind} {m : Int} {s : ByteArray} (ho : o.op = .index ty x y) (hx : E.eval t x = .str s) (hy : E.eval t y = .int k m)
    (hu : E.P.underlying ty = some .string) (h0 : 0 ≤ m) (h1 : m < s.size) : OpOK E o t h n [] false (.int .u8 (bt s m.toNat)) [] n :=
  OpOK.value fun c a h2 hx' hg hrd => by
    have g1 := (by have := hx' x (by simp [ho, Op.operands]); rw [hx] at this; exact this.str_inv)
    have g2 := (by have := hx' y (by simp [ho, Op.operands]); rw [hy] at this; exact this.int_inv)
    have hlt : m.toNat < s.size := by omega
    refine ⟨.int .u8 (bt s m.toNat), ?_, .int _ _⟩
    have e1 : s[m.toNat]? = some s[m.toNat] := by simp [hlt]
    have e2 := bt_eq hlt
    simp only [execOp, ho, g1, g2, e2]
    simp [Instr.index, asIntOf, run_underlying hu, h0, e1]

/-! Lengths. -/

theorem op_len_str {x : Operand} {ty : TypeId} {s : ByteArray} (ho : o.op = .call { callee := .builtin .len, args := #[x], argTypes := #[ty] }) (hx : E.eval t x = .str s) (hu : E.P.underlying ty = some .string) :
    OpOK E o t h n [] false (.int .i64 s.size) [] n :=
  OpOK.value fun c a h2 hx' hg hrd => by
    have g1 := (by have := hx' x (by simp [ho, Op.operands, Call.operands]); rw [hx] at this; exact this.str_inv)
    refine ⟨.int .i64 s.size, ?_, .int _ _⟩
    simp [execOp, ho, g1, resolve, invoke, builtin, Builtin.len_, run_underlying hu, goInt]

def lenV : V → Option Nat
  | .sl _ _ es => some es.length
  | .view _ _ len => some len
  | .nsl => some 0
  | _ => none

theorem lenV_spec {c : Cx} {x : V} {v : Value} {m : Nat} (h : VR c x v) (hm : lenV x = some m) : ∃ a cap, v = .slice a m cap := by
  cases h with
  | sl fr nn es v h =>
    cases h with
    | sl _ _ a len cap sz rd hlen =>
      simp only [lenV, Option.some.injEq] at hm
      subst hm; subst hlen
      exact ⟨_, _, rfl⟩
  | view id off len p o cap hp ho hl =>
    simp only [lenV, Option.some.injEq] at hm
    subst hm
    exact ⟨_, _, rfl⟩
  | nsl =>
    simp only [lenV, Option.some.injEq] at hm
    subst hm
    exact ⟨_, _, rfl⟩
  | _ => simp [lenV] at hm

theorem op_len_sl {x : Operand} {ty e : TypeId} {m : Nat} (ho : o.op = .call { callee := .builtin .len, args := #[x], argTypes := #[ty] }) (hm : lenV (E.eval t x) = some m) (hu : E.P.underlying ty = some (.slice e)) :
    OpOK E o t h n [] false (.int .i64 m) [] n :=
  OpOK.value fun c a h2 hx' hg hrd => by
    obtain ⟨b, cap, g1⟩ := lenV_spec (hx' x (by simp [ho, Op.operands, Call.operands])) hm
    refine ⟨.int .i64 m, ?_, .int _ _⟩
    simp [execOp, ho, g1, resolve, invoke, builtin, Builtin.len_, run_underlying hu, goInt]

/-! Slices of slices, of strings. -/

/-- A bound that is given, or not. -/
def bndV (E : Env) (t : Nat → V) : Option Operand → Int → Option Int
  | none, d => some d
  | some x, _ => match E.eval t x with
    | .int _ m => some m
    | _ => none

theorem bnd_val {c : Cx} {a : Act} {x : Option Operand} {d m : Int} (hm : bndV E t x d = some m) (hx : ∀ y, x = some y → VR c (E.eval t y) (a.eval y)) : (x = none ∧ m = d) ∨ ∃ y k, x = some y ∧ a.eval y = .int k m := by
  cases x with
  | none => simp only [bndV, Option.some.injEq] at hm; exact .inl ⟨rfl, hm.symm⟩
  | some y =>
    have := hx y rfl
    simp only [bndV] at hm
    split at hm
    · rename_i k m' he
      rw [he] at this
      simp only [Option.some.injEq] at hm
      subst hm
      exact .inr ⟨y, k, rfl, this.int_inv⟩
    · cases hm

/-- The bounds of a slice of a slice, in the slice's length. -/
theorem run_bounds {P : Program} {w : World} {len cap : Nat} {lo hi : Option Value} {l r : Int} (hl : (lo = none ∧ l = 0) ∨ ∃ k, lo = some (.int k l)) (hr : (hi = none ∧ r = len) ∨ ∃ k, hi = some (.int k r))
    (h0 : 0 ≤ l) (h1 : l ≤ r) (h2 : r ≤ len) (hc : len ≤ cap) : (Instr.sliceBounds true len cap lo hi none).run P w = .ok (l.toNat, r.toNat, cap) w := by
  have hr0 : 0 ≤ r := by omega
  have hrc : r ≤ cap := by omega
  have hlr : l ≤ (r.toNat : Int) := by omega
  rcases hl with ⟨rfl, rfl⟩ | ⟨k, rfl⟩ <;> rcases hr with ⟨rfl, rfl⟩ | ⟨k', rfl⟩
  · simp [Instr.sliceBounds]
  · simp [Instr.sliceBounds, Instr.sliceBound, asIntOf, hr0, hrc]
  · simp [Instr.sliceBounds, Instr.sliceBound, asIntOf, h0, h1]
  · simp [Instr.sliceBounds, Instr.sliceBound, asIntOf, h0, hr0, hrc, hlr]
    intro hh; omega

/-- A slice of a slice; its elements have the type's cells. -/
theorem op_slice_view {ty e : TypeId} {x : Operand} {lo hi : Option Operand} {id off len sz : Nat} {b : Blk} {l r : Int} (ho : o.op = .slice ty x lo hi none) (hx : E.eval t x = .view id off len)
    (hs : sliceP E.P ty = some (e, sz)) (hb : h id = some b) (hbz : b.sz = sz) (hl : bndV E t lo 0 = some l) (hr : bndV E t hi len = some r) (h0 : 0 ≤ l) (h1 : l ≤ r) (h2 : r ≤ len) :
    OpOK E o t h n [id] false (.view id (off + l.toNat) (r.toNat - l.toNat)) [] n :=
  OpOK.value fun c a h2' hx' hg hrd => by
    have g1 := hx' x (by simp [ho, Op.operands])
    rw [hx] at g1
    have gl := bnd_val hl (fun y hy => hx' y (by simp [ho, Op.operands, hy]))
    have gr := bnd_val hr (fun y hy => hx' y (by simp [ho, Op.operands, hy]))
    obtain ⟨hu, i, hi', hiz⟩ := sliceP_spec hs
    generalize hw : a.eval x = w at g1
    cases g1 with
    | view _ _ _ p off' cap hp hof hlc hpm =>
      obtain ⟨cells, fz, q2, _⟩ := hg.cells (by rw [hrd id (by simp)]; exact hb) hp hpm
      have hpz : p.sz = i.size := by rw [q2, hbz, hiz]
      have hrun := run_bounds (P := E.P) (w := c.w) (len := len) (cap := cap) (lo := lo.map a.eval) (hi := hi.map a.eval) (l := l) (r := r)
        (by rcases gl with ⟨rfl, h⟩ | ⟨y, k, rfl, h⟩
            · exact .inl ⟨rfl, h⟩
            · exact .inr ⟨k, by simp [h]⟩)
        (by rcases gr with ⟨rfl, h⟩ | ⟨y, k, rfl, h⟩
            · exact .inl ⟨rfl, h⟩
            · exact .inr ⟨k, by simp [h]⟩) h0 h1 h2 hlc
      have hlcap : l.toNat ≤ cap := by omega
      refine ⟨.slice (some (if cap = l.toNat then ⟨p.b, off', none⟩ else ⟨p.b, off' + l.toNat * i.size, none⟩)) (r.toNat - l.toNat) (cap - l.toNat), ?_, ?_⟩
      · simp [execOp, ho, hw, Instr.sliceAt, Instr.slice, run_underlying hu, hrun, sizeOf, typeInfo, hi', Addr.add_mid]
        split <;> simp_all
      · split
        · rename_i hc
          exact .view _ _ _ p _ _ hp (.inl (by omega)) (by omega)
        · rename_i hc
          refine .view _ _ _ p _ _ hp (.inr ?_) (by omega)
          have hcap : ¬ cap = 0 := by omega
          obtain ⟨e1, e2⟩ := hof.resolve_left hcap
          refine ⟨by rw [e1, hpz, Nat.add_mul]; omega, ?_⟩
          have : l.toNat * p.sz + (cap - l.toNat) * p.sz = cap * p.sz := by rw [← Nat.add_mul]; congr 1; omega
          rw [Nat.add_mul]; omega

end ops
end Go.V
