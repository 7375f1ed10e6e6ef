import Derived.Laws.AppendOwn
import Derived.Laws.MakeOwn
import Derived.Lib.ConvBytes
import Derived.Laws.BytesString
import Derived.Test.YteifdelnahccjaaGreatDoorF1
namespace Go.V
open Go.RowKit (Below)
set_option linter.unusedSimpArgs false
set_option linter.unusedVariables false
theorem OpOK.makes {E : Env} {o : Oper} {t : Nat → V} {h : Heap} {n : Nat} {v : V} {es : List (List V)} {sz : Nat} {ty : TypeId} (hsz : ∀ e ∈ es, e.length = sz)
    (H : ∀ (c : Cx) (a : Act) (h2 : Heap), (∀ x ∈ o.op.operands, VR c (E.eval t x) (a.eval x)) → Good E c h2 →
      ∃ (cells : Array Value) (v' : Value), (execOp a.eval o).run E.P c.w = .ok (.value v') (c.w.alloc (.cells cells ty)) ∧ es.length * sz = cells.size ∧
        (∀ i j x, get2 es i j = some x → ∃ u, cells[i * sz + j]? = some u ∧ VR c x u ∧ u.oneCell' = true) ∧ (∀ c' : Cx, c'.ρ n = some ⟨c.w.heap.size, 0, cells.size, sz, false⟩ → VR c' v v')) :
    OpOK E o t h n [] false v [(n, some ⟨es, sz, ty⟩)] (n + 1) := by
  intro c a h2 K Q hd hx hg hrd _ hf hK
  obtain ⟨cells, v', hrun, hl, hc, hv⟩ := H c a h2 hx hg
  have hn : c.ρ n = none := hf n (Nat.le_refl _) (by omega)
  unfold Oper.wp
  rw [hrun, Oper.upon_value]
  refine hK (c.new n cells ty sz) v' (Cx.new_ext hg hn cells ty sz) (Good.new hg hn cells ty sz es (Nat.le_of_eq hl) hsz fun i j x hx' => ?_) (new_dom c n cells ty sz) (hv _ (by simp [Cx.new]))
  obtain ⟨u, h1, h2, h3⟩ := hc i j x hx'
  exact ⟨u, h1, h2.mono (Cx.new_ext hg hn cells ty sz), h3⟩
def zeroV (P : Program) (ty : TypeId) : Option (List V) := ((P.info? ty).bind (·.zero)).map fun z => z.cells.toList.map V.ofConst
theorem N0 {P : Program} {ty : TypeId} {zs : List V} (h : zeroV P ty = some zs) : ∃ z : Value, (∀ w, (zeroValue ty).run P w = .ok z w) ∧ zs = z.cells.toList.map V.ofConst := by
  unfold zeroV at h
  cases hi : P.info? ty with
  | none => simp [hi] at h
  | some i =>
    cases hz : i.zero with
    | none => simp [hi, hz] at h
    | some z =>
      simp only [hi, Option.bind_some, hz, Option.map_some, Option.some.injEq] at h
      exact ⟨z, fun w => by simp [zeroValue, typeInfo, hi, hz], h.symm⟩
theorem get2_one {cs : List V} {i j : Nat} {x : V} (h : get2 [cs] i j = some x) : i = 0 ∧ cs[j]? = some x := by
  cases i with
  | zero => exact ⟨rfl, by simpa [get2] using h⟩
  | succ i => simp [get2] at h
section ops
variable {E : Env} {o : Oper} {t : Nat → V} {h : Heap} {n : Nat}
theorem op_alloc {ty : TypeId} {zs : List V} (ho : o.op = .alloc ty) (hz : zeroV E.P ty = some zs) (hc : zs.all V.cell = true) : OpOK E o t h n [] false (.ptr n 0 0) [(n, some ⟨[zs], zs.length, ty⟩)] (n + 1) := by
  obtain ⟨z, hrun, rfl⟩ := N0 hz
  refine OpOK.makes (by simp) fun c a h2 hx hg => ⟨z.cells, .pointer (some ⟨c.w.heap.size, 0, none⟩), ?_, by simp, fun i j x hg2 => ?_, fun c' hc' => ?_⟩
  · simp [execOp, ho, Instr.alloc, hrun, newVar, newRow]
  · obtain ⟨rfl, h1⟩ := get2_one hg2
    simp only [List.getElem?_map, Array.getElem?_toList] at h1
    cases hc' : z.cells[j]? with
    | none => simp [hc'] at h1
    | some u =>
      simp only [hc', Option.map_some, Option.some.injEq] at h1
      subst h1
      have hlt := (Array.getElem?_eq_some_iff.1 hc').1
      exact ⟨u, by simpa using hc', G7 c u, (G7 c u).oneCell ((List.all_eq_true.1 hc) _ (List.mem_map.2 ⟨u, by simpa using Array.mem_of_getElem? hc', rfl⟩))⟩
  · simpa using VR.ptr (c := c') n 0 0 _ hc'
theorem op_box {ty : TypeId} {x : Operand} (ho : o.op = .box ty x) (hk : (E.eval t x).known = true) (hc : (E.eval t x).cells.all V.cell = true) :
    OpOK E o t h n [] false (.ptr n 0 0) [(n, some ⟨[(E.eval t x).cells], (E.eval t x).cells.length, ty⟩)] (n + 1) := by
  refine OpOK.makes (by simp) fun c a h2 hx hg => ?_
  have h1 := (hx x (by simp [ho, Op.operands])).cells hk
  refine ⟨(a.eval x).cells, .pointer (some ⟨c.w.heap.size, 0, none⟩), ?_, by simp [h1.1], fun i j y hg2 => ?_, fun c' hc' => ?_⟩
  · simp [execOp, ho, Instr.box, newVar, newRow]
  · obtain ⟨rfl, h3⟩ := get2_one hg2
    have hlt : j < (a.eval x).cells.size := by rw [h1.1]; exact (List.getElem?_eq_some_iff.1 h3).1
    exact ⟨(a.eval x).cells[j], by simp [hlt], h1.2 j y _ h3 (by simp [hlt]), (h1.2 j y _ h3 (by simp [hlt])).oneCell ((List.all_eq_true.1 hc) y (List.mem_of_getElem? h3))⟩
  · simpa using VR.ptr (c := c') n 0 0 _ hc'
def rowP (P : Program) (ty : TypeId) : Option (Bool × Nat) :=
  match P.underlying ty, P.info? ty with
  | some d, some i => some (d.isRow, i.size)
  | _, _ => none
theorem F3 {P : Program} {ty : TypeId} {r : Bool} {k : Nat} (h : rowP P ty = some (r, k)) : ∃ d, P.underlying ty = some d ∧ d.isRow = r ∧ (P.info? ty).map (·.size) = some k := by
  unfold rowP at h
  cases hu : P.underlying ty with
  | none => simp [hu] at h
  | some d =>
    cases hi : P.info? ty with
    | none => simp [hu, hi] at h
    | some i =>
      simp only [hu, hi, Option.some.injEq, Prod.mk.injEq] at h
      exact ⟨d, rfl, h.1, by simp [h.2]⟩
theorem I7 {P : Program} {w : World} {ty : TypeId} {d : TypeDesc} {b o : Nat} {v : Value} (hu : P.underlying ty = some d) (hd : d.isRow = false) (hc : w.cell? ⟨b, o, none⟩ = some v) :
    (Instr.loadAt ty (.pointer (some ⟨b, o, none⟩))).run P w = .ok v w := by
  have hagg : (isAgg ty).run P w = .ok false w := by
    unfold isAgg
    rw [Sem.run_bind, run_underlying hu w]
    cases d <;> simp_all
  simp [Instr.loadAt, Instr.sureAddr, loadVar, hagg, run_load, hc]
theorem op_load_row {ty : TypeId} {x : Operand} {id i j k : Nat} {b : Blk} {cs : List V} (ho : o.op = .load ty x) (hx : E.eval t x = .ptr id i j) (hb : h id = some b) (hi : b.es[i]? = some cs)
    (hr : rowP E.P ty = some (true, k)) (hl : j + k ≤ cs.length) : OpOK E o t h n [id] false (.agg ((cs.drop j).take k)) [] n :=
  OpOK.value fun c a h2 hx' hg hrd => by
    have h1 := hx' x (by simp [ho, Op.operands])
    rw [hx] at h1
    obtain ⟨p, ⟨hp, hpm⟩, hv⟩ := h1.ptr_inv
    obtain ⟨d, hu, hd, hs⟩ := F3 hr
    obtain ⟨vs, hvl, hrange, hvr, _⟩ := hg.range (by rw [hrd id (by simp)]; exact hb) hp hpm hi j k hl
    refine ⟨.agg vs.toArray, ?_, .agg _ _ (by simp [hvl]; omega) fun m y u h3 h4 => hvr m y u h3 (by simpa using h4)⟩
    have := run_loadAt_mid (P := E.P) c.w p.b (p.o + i * p.sz + j) ty vs d hrange hu hd (by rw [hs, hvl])
    simp [execOp, ho, hv, this]
theorem op_load_cell {ty : TypeId} {x : Operand} {id i j k : Nat} {b : Blk} {cs : List V} {v : V} (ho : o.op = .load ty x) (hx : E.eval t x = .ptr id i j) (hb : h id = some b) (hi : b.es[i]? = some cs)
    (hr : rowP E.P ty = some (false, k)) (hl : cs[j]? = some v) : OpOK E o t h n [id] false v [] n :=
  OpOK.value fun c a h2 hx' hg hrd => by
    have h1 := hx' x (by simp [ho, Op.operands])
    rw [hx] at h1
    obtain ⟨p, ⟨hp, hpm⟩, hv⟩ := h1.ptr_inv
    obtain ⟨d, hu, hd, hs⟩ := F3 hr
    have hlt : j + 1 ≤ cs.length := (List.getElem?_eq_some_iff.1 hl).1
    obtain ⟨vs, hvl, hrange, hvr, _⟩ := hg.range (by rw [hrd id (by simp)]; exact hb) hp hpm hi j 1 hlt
    have hlt' : 0 < vs.length := by omega
    refine ⟨vs[0], ?_, hvr 0 v _ ?_ (by simp [hlt'])⟩
    · have := I7 (P := E.P) (w := c.w) (b := p.b) (o := p.o + i * p.sz + j) (v := vs[0]) hu hd (by have := hrange 0 vs[0] (by simp [hlt']); simpa using this)
      simp [execOp, ho, hv, this]
    · rw [List.getElem?_take_of_lt (by omega), List.getElem?_drop]; simpa using hl
theorem op_load_irow {ty : TypeId} {x : Operand} {fr : Bool} {k : Nat} {cs : List T} (ho : o.op = .load ty x) (hx : E.eval t x = .iptr fr cs)
    (hr : rowP E.P ty = some (true, k)) (hl : k ≤ cs.length) : OpOK E o t h n [] false (.agg ((cs.take k).map (T.toV fr))) [] n :=
  OpOK.value fun c a h2 hx' hg hrd => by
    have h1 := hx' x (by simp [ho, Op.operands])
    rw [hx] at h1
    generalize hw : a.eval x = w at h1
    cases h1 with
    | iptr _ _ b off rd hI hrd hsub =>
      obtain ⟨d, hu, hd, hs⟩ := F3 hr
      have hlt : ∀ m, m < k → cs[m]? = some (cs.getD m .nilp) := fun m hm => by
        have : m < cs.length := by omega
        simp [this]
      refine ⟨.agg ((List.range k).map rd).toArray, ?_, .agg _ _ (by simp; omega) fun m y u h3 h4 => ?_⟩
      · have := run_loadAt_mid (P := E.P) c.w b off ty ((List.range k).map rd) d (fun m v hm => by
          have hmk : m < k := by
            have := (List.getElem?_eq_some_iff.1 hm).1
            simpa using this
          simp only [List.getElem?_map, List.getElem?_range hmk, Option.map_some, Option.some.injEq] at hm
          subst hm
          exact hrd m _ (hlt m hmk)) hu hd (by rw [hs]; simp)
        simp [execOp, ho, hw, this]
      · have hmk : m < k := by
          have := (List.getElem?_eq_some_iff.1 h3).1
          simp at this; omega
        simp only [List.getElem?_map, List.getElem?_take_of_lt hmk, hlt m hmk, Option.map_some, Option.some.injEq] at h3
        simp only [List.getElem?_toArray, List.getElem?_map, List.getElem?_range hmk, Option.map_some, Option.some.injEq] at h4
        subst h3; subst h4
        exact (hsub m _ (hlt m hmk)).toV
theorem op_load_icell {ty : TypeId} {x : Operand} {fr : Bool} {k : Nat} {cs : List T} {y : T} (ho : o.op = .load ty x) (hx : E.eval t x = .iptr fr cs)
    (hr : rowP E.P ty = some (false, k)) (hl : cs[0]? = some y) : OpOK E o t h n [] false (y.toV fr) [] n :=
  OpOK.value fun c a h2 hx' hg hrd => by
    have h1 := hx' x (by simp [ho, Op.operands])
    rw [hx] at h1
    generalize hw : a.eval x = w at h1
    cases h1 with
    | iptr _ _ b off rd hI hrd hsub =>
      obtain ⟨d, hu, hd, hs⟩ := F3 hr
      refine ⟨rd 0, ?_, (hsub 0 y hl).toV⟩
      have := I7 (P := E.P) (w := c.w) (b := b) (o := off) (v := rd 0) hu hd (by simpa using hrd 0 y hl)
      simp [execOp, ho, hw, this]
theorem run_store_any {P : Program} {w : World} {b o : Nat} {ty : TypeId} {v : Value} (ht : w.there b o v.cells.size) (hi : (P.info? ty).map (·.size) = some v.cells.size) (h1 : ∀ u ∈ v.cells.toList, u.oneCell' = true) :
    (Instr.storeAt ty (.pointer (some ⟨b, o, none⟩)) v).run P w = .ok () (w.setCells b o v.cells.toList) := by
  have := run_storeCells_cells (P := P) b o v.cells.toList 0 w (fun j hj => by simpa using (ht j (by simpa using hj)).1) (fun j hj => by simpa using (ht j (by simpa using hj)).2) h1
  cases hq : P.info? ty with
  | none => simp [hq] at hi
  | some i =>
    have hs : v.cells.size = i.size := by simp [hq] at hi; omega
    simp only [Nat.add_zero] at this
    simp [Instr.storeAt, Instr.sureAddr, storeVar, sizeOf, typeInfo, hq, hs, this]
theorem op_store {ty : TypeId} {x y : Operand} {id i j k : Nat} {b : Blk} {cs : List V} {r : Bool} (ho : o.op = .store ty x y) (hx : E.eval t x = .ptr id i j) (hb : h id = some b) (hi : b.es[i]? = some cs)
    (hr : rowP E.P ty = some (r, k)) (hk : (E.eval t y).known = true) (hkl : (E.eval t y).cells.length = k) (hc : (E.eval t y).cells.all V.cell = true) (hl : j + k ≤ cs.length) :
    OpOK E o t h n [id] false .unk [(id, some { b with es := b.es.set i (splice cs j (E.eval t y).cells) })] n := by
  intro c a h2 K Q hd hx' hg hrd _ hf hK
  have h1 := hx' x (by simp [ho, Op.operands])
  rw [hx] at h1
  obtain ⟨p, ⟨hp, hpm⟩, hv⟩ := h1.ptr_inv
  obtain ⟨d, hu, hdr, hs⟩ := F3 hr
  have hb2 : h2 id = some b := by rw [hrd id (by simp)]; exact hb
  have hy := (hx' y (by simp [ho, Op.operands])).cells hk
  have hth := hg.there hb2 hp hpm hi j k hl
  have hone : ∀ u ∈ (a.eval y).cells.toList, u.oneCell' = true := (fun u hu => by
    obtain ⟨m, hm⟩ := List.getElem?_of_mem hu
    have hm' : (a.eval y).cells[m]? = some u := by simpa using hm
    have hlt : m < (E.eval t y).cells.length := by
      rw [← hy.1]
      exact (Array.getElem?_eq_some_iff.1 hm').1
    have hxm : (E.eval t y).cells[m]? = some (E.eval t y).cells[m] := by simp [hlt]
    exact (hy.2 m _ u hxm hm').oneCell ((List.all_eq_true.1 hc) _ (List.getElem_mem hlt)))
  have hrun := run_store_any (P := E.P) (w := c.w) (b := p.b) (o := p.o + i * p.sz + j) (ty := ty) (v := a.eval y) (by rw [hy.1, hkl]; exact hth) (by rw [hs, hy.1, hkl]) hone
  obtain ⟨cells, fz, q2, _⟩ := hg.cells hb2 hp hpm
  unfold Oper.wp
  have : (execOp a.eval o).run E.P c.w = .ok .skip (c.set p.b (p.o + i * b.sz + j) (a.eval y).cells.toList).w := by
    rw [q2] at hrun
    simp [execOp, ho, hv, q2, hrun, Cx.set]
  rw [this, Oper.upon_skip]
  refine hK _ undef (Cx.set_ext hg hb2 hp _ _) ?_ (fun id h => .inl h) (.unk _)
  exact Good.store hg hb2 hp hpm i j cs (E.eval t y).cells (a.eval y).cells.toList hi (by rw [hkl]; exact hl) (by simp [hy.1]) (fun m y' u h3 h4 => hy.2 m y' u h3 (by simpa using h4)) hone
def fieldP (P : Program) (ty : TypeId) (f : Nat) : Option (Nat × Nat × Bool) :=
  match P.underlying ty with
  | some (.struct fs) => match fs[f]? with
    | some fd => match P.underlying fd.type, P.info? fd.type with
      | some d, some i => some (fd.offset, i.size, d.isRow)
      | _, _ => none
    | none => none
  | _ => none
theorem V1 {P : Program} {ty : TypeId} {f off k : Nat} {r : Bool} (h : fieldP P ty f = some (off, k, r)) :
    ∃ fs fd d i, P.underlying ty = some (.struct fs) ∧ fs[f]? = some fd ∧ fd.offset = off ∧ P.underlying fd.type = some d ∧ d.isRow = r ∧ P.info? fd.type = some i ∧ i.size = k := by
  unfold fieldP at h
  split at h
  · rename_i fs hu
    split at h
    · rename_i fd hf
      split at h
      · rename_i d i hd hi
        simp only [Option.some.injEq, Prod.mk.injEq] at h
        exact ⟨fs, fd, d, i, hu, hf, h.1, hd, h.2.2, hi, h.2.1⟩
      · cases h
    · cases h
  · cases h
theorem V2 {P : Program} {w : World} {ty : TypeId} {f off k b o : Nat} {r : Bool} (h : fieldP P ty f = some (off, k, r)) (hk : k ≠ 0) :
    (Instr.fieldAt ty (.pointer (some ⟨b, o, none⟩)) f).run P w = .ok (.pointer (some ⟨b, o + off, none⟩)) w := by
  obtain ⟨fs, fd, d, i, h1, h2, h3, h4, h5, h6, h7⟩ := V1 h
  have h0 : ¬ i.size = 0 := by omega
  simp [Instr.fieldAt, run_underlying h1, h2, Instr.sureAddr, fieldPlace, sizeOf, typeInfo, h6, h0, Addr.add_mid, h3]
theorem op_fieldAddr {ty : TypeId} {x : Operand} {f off k id i j : Nat} {r : Bool} (ho : o.op = .fieldAddr ty x f) (hx : E.eval t x = .ptr id i j) (hf : fieldP E.P ty f = some (off, k, r)) (hk : k ≠ 0) :
    OpOK E o t h n [] false (.ptr id i (j + off)) [] n :=
  OpOK.value fun c a h2 hx' hg hrd => by
    have h1 := hx' x (by simp [ho, Op.operands])
    rw [hx] at h1
    obtain ⟨p, ⟨hp, hpm⟩, hv⟩ := h1.ptr_inv
    refine ⟨.pointer (some ⟨p.b, p.o + i * p.sz + (j + off), none⟩), ?_, .ptr _ _ _ _ hp⟩
    simp [execOp, ho, hv, V2 hf hk, Nat.add_assoc]
theorem Z1 {ty : TypeId} {x : Operand} {f off k : Nat} {fr r : Bool} {cs : List T} (ho : o.op = .fieldAddr ty x f) (hx : E.eval t x = .iptr fr cs) (hf : fieldP E.P ty f = some (off, k, r)) (hk : k ≠ 0) :
    OpOK E o t h n [] false (.iptr fr (cs.drop off)) [] n :=
  OpOK.value fun c a h2 hx' hg hrd => by
    have h1 := hx' x (by simp [ho, Op.operands])
    rw [hx] at h1
    generalize hw : a.eval x = w at h1
    cases h1 with
    | iptr _ _ b off' rd hI hrd hsub =>
      refine ⟨.pointer (some ⟨b, off' + off, none⟩), by simp [execOp, ho, hw, V2 hf hk], .iptr fr _ b _ (fun m => rd (off + m)) hI (fun m y hm => ?_) fun m y hm => ?_⟩
      · rw [List.getElem?_drop] at hm
        rw [Nat.add_assoc]; exact hrd (off + m) y hm
      · rw [List.getElem?_drop] at hm
        exact hsub (off + m) y hm
def partV (cs : List V) (off k : Nat) (r : Bool) : Option V := if r then some (.agg ((cs.drop off).take k)) else cs[off]?
theorem op_field {ty : TypeId} {x : Operand} {f off k : Nat} {r : Bool} {cs : List V} {v : V} (ho : o.op = .field ty x f) (hx : E.eval t x = .agg cs) (hf : fieldP E.P ty f = some (off, k, r))
    (hv : partV cs off k r = some v) (hl : off + k ≤ cs.length) : OpOK E o t h n [] false v [] n :=
  OpOK.value fun c a h2 hx' hg hrd => by
    have h1 := hx' x (by simp [ho, Op.operands])
    rw [hx] at h1
    obtain ⟨vs, hvs, hvl, hvr⟩ := h1.agg_inv
    obtain ⟨fs, fd, d, i, g1, g2, g3, g4, g5, g6, g7⟩ := V1 hf
    have hagg : ∀ w, (isAgg fd.type).run E.P w = .ok r w := by
      intro w
      unfold isAgg
      rw [Sem.run_bind, run_underlying g4 w, ← g5]
      cases d <;> simp
    cases r with
    | true =>
      simp only [partV, if_true, Option.some.injEq] at hv
      subst hv
      refine ⟨.agg (vs.extract off (off + k)), ?_, .agg _ _ (by simp; omega) fun m y u h3 h4 => ?_⟩
      · simp [execOp, ho, hvs, Instr.field, run_underlying g1, g2, asAgg, part, hagg, sizeOf, typeInfo, g6, g7, g3]
      · have hmk : m < k := by
          have := (List.getElem?_eq_some_iff.1 h3).1
          simp at this; omega
        rw [List.getElem?_take_of_lt hmk, List.getElem?_drop] at h3
        have hlt : off + m < vs.size := by omega
        have : (vs.extract off (off + k))[m]? = vs[off + m]? := by
          rw [Array.getElem?_extract]
          rw [if_pos (by omega)]
        rw [this] at h4
        exact hvr _ _ _ h3 h4
    | false =>
      simp only [partV, Bool.false_eq_true, if_false] at hv
      have hlt : off < vs.size := by rw [← hvl]; exact (List.getElem?_eq_some_iff.1 hv).1
      refine ⟨vs[off], ?_, hvr off v _ hv (by simp [hlt])⟩
      simp [execOp, ho, hvs, Instr.field, run_underlying g1, g2, asAgg, part, hagg, g3, hlt]
def sliceP (P : Program) (ty : TypeId) : Option (TypeId × Nat) :=
  match P.underlying ty with
  | some (.slice e) => (P.info? e).map fun i => (e, i.size)
  | _ => none
theorem H1 {P : Program} {ty e : TypeId} {k : Nat} (h : sliceP P ty = some (e, k)) : P.underlying ty = some (.slice e) ∧ ∃ i, P.info? e = some i ∧ i.size = k := by
  unfold sliceP at h
  split at h
  · rename_i e' hu
    cases hi : P.info? e' with
    | none => simp [hi] at h
    | some i =>
      simp only [hi, Option.map_some, Option.some.injEq, Prod.mk.injEq] at h
      obtain ⟨rfl, rfl⟩ := h
      exact ⟨hu, i, hi, rfl⟩
  · cases h
theorem op_index_view {ty e : TypeId} {x y : Operand} {k : IntKind} {m : Int} {id off len sz : Nat} {b : Blk} (ho : o.op = .indexAddr ty x y) (hx : E.eval t x = .view id off len) (hy : E.eval t y = .int k m)
    (hs : sliceP E.P ty = some (e, sz)) (hb : h id = some b) (hbz : b.sz = sz) (h0 : 0 ≤ m) (h1 : m < len) : OpOK E o t h n [id] false (.ptr id (off + m.toNat) 0) [] n :=
  OpOK.value fun c a h2 hx' hg hrd => by
    have g1 := hx' x (by simp [ho, Op.operands])
    have g2 := (by have := hx' y (by simp [ho, Op.operands]); rw [hy] at this; exact this.int_inv)
    rw [hx] at g1
    obtain ⟨hu, i, hi, hiz⟩ := H1 hs
    generalize hw : a.eval x = w at g1
    cases g1 with
    | view _ _ _ p off' cap hp hof hlc hpm =>
      obtain ⟨cells, fz, q2, _⟩ := hg.cells (by rw [hrd id (by simp)]; exact hb) hp hpm
      have hcap : ¬ cap = 0 := by omega
      obtain ⟨e1, e2⟩ := hof.resolve_left hcap
      refine ⟨.pointer (some ⟨p.b, p.o + (off + m.toNat) * p.sz + 0, none⟩), ?_, .ptr _ _ _ _ hp⟩
      have hpz : p.sz = i.size := by rw [q2, hbz, hiz]
      have hel : E.P.elem ty = e := by simp [Program.elem, hu]
      simp only [execOp, ho, hw, g2]
      simp [run_indexAt_slice _ _ _ _ _ _ _ (by rw [hel]; exact hu), h0, h1, hel, sizeOf, typeInfo, hi, Addr.add_mid, e1, hpz, Nat.add_mul, Nat.add_assoc]
theorem op_index_sl {ty e : TypeId} {x y : Operand} {k : IntKind} {m : Int} {fr nn : Bool} {sz : Nat} {es : List (List T)} {cs : List T} (ho : o.op = .indexAddr ty x y) (hx : E.eval t x = .sl fr nn es) (hy : E.eval t y = .int k m)
    (hs : sliceP E.P ty = some (e, sz)) (h0 : 0 ≤ m) (hi : es[m.toNat]? = some cs) (hcl : cs.length = sz) : OpOK E o t h n [] false (.iptr fr cs) [] n :=
  OpOK.value fun c a h2 hx' hg hrd => by
    have g1 := hx' x (by simp [ho, Op.operands])
    have g2 := (by have := hx' y (by simp [ho, Op.operands]); rw [hy] at this; exact this.int_inv)
    rw [hx] at g1
    obtain ⟨hu, i, hi', hiz⟩ := H1 hs
    generalize hw : a.eval x = w at g1
    have hlt : m.toNat < es.length := (List.getElem?_eq_some_iff.1 hi).1
    cases g1 with
    | sl _ _ _ _ g1 =>
      cases g1 with
      | sl _ _ A len cap sz' rd hlen hcap hnil hI hsz hrd' hsub =>
        cases A with
        | none => have := (hnil rfl).2.1; subst this; simp at hlt
        | some A =>
          obtain ⟨b, off, sp⟩ := A
          have hne : es ≠ [] := fun e => by subst e; simp at hlt
          obtain ⟨hsp, hIb⟩ := hI _ rfl hne
          simp only at hsp hIb
          subst hsp
          have hsz' : sz' = sz := by rw [← hsz cs (List.mem_of_getElem? hi)]; exact hcl
          subst hsz'
          have hlm : m < len := by rw [hlen]; omega
          refine ⟨.pointer (some ⟨b, off + m.toNat * sz', none⟩), ?_, .iptr fr cs b _ (fun j => rd m.toNat j) hIb (fun j y hj => ?_) fun j y hj => ?_⟩
          · have hel : E.P.elem ty = e := by simp [Program.elem, hu]
            simp only [execOp, ho, hw, g2]
            simp [run_indexAt_slice _ _ _ _ _ _ _ (by rw [hel]; exact hu), h0, hlm, hel, sizeOf, typeInfo, hi', Addr.add_mid, hiz]
          · exact hrd' _ m.toNat j y rfl (by simp [get2, hi, hj])
          · exact hsub m.toNat j y (by simp [get2, hi, hj])
def bt (s : ByteArray) (i : Nat) : Int := (s.data.toList[i]?.getD 0).toNat
theorem bt_eq {s : ByteArray} {i : Nat} (h : i < s.size) : bt s i = (s[i].toNat : Int) := by
  have h' : i < s.data.size := h
  unfold bt
  rw [Array.getElem?_toList, Array.getElem?_eq_getElem h']
  rfl
theorem S5 {ty : TypeId} {x y : Operand} {k : IntKind} {m : Int} {s : ByteArray} (ho : o.op = .index ty x y) (hx : E.eval t x = .str s) (hy : E.eval t y = .int k m)
    (hu : E.P.underlying ty = some .string) (h0 : 0 ≤ m) (h1 : m < s.size) : OpOK E o t h n [] false (.int .u8 (bt s m.toNat)) [] n :=
  OpOK.value fun c a h2 hx' hg hrd => by
    have g1 := (by have := hx' x (by simp [ho, Op.operands]); rw [hx] at this; exact this.str_inv)
    have g2 := (by have := hx' y (by simp [ho, Op.operands]); rw [hy] at this; exact this.int_inv)
    have hlt : m.toNat < s.size := by omega
    refine ⟨.int .u8 (bt s m.toNat), ?_, .int _ _⟩
    have e1 : s[m.toNat]? = some s[m.toNat] := by simp [hlt]
    have e2 := bt_eq hlt
    simp only [execOp, ho, g1, g2, e2]
    simp [Instr.index, asIntOf, run_underlying hu, h0, e1]
theorem op_len_str {x : Operand} {ty : TypeId} {s : ByteArray} (ho : o.op = .call { callee := .builtin .len, args := #[x], argTypes := #[ty] }) (hx : E.eval t x = .str s) (hu : E.P.underlying ty = some .string) :
    OpOK E o t h n [] false (.int .i64 s.size) [] n :=
  OpOK.value fun c a h2 hx' hg hrd => by
    have g1 := (by have := hx' x (by simp [ho, Op.operands, Call.operands]); rw [hx] at this; exact this.str_inv)
    refine ⟨.int .i64 s.size, ?_, .int _ _⟩
    simp [execOp, ho, g1, resolve, invoke, builtin, Builtin.len_, run_underlying hu, goInt]
def lenV : V → Option Nat
  | .sl _ _ es => some es.length
  | .view _ _ len => some len
  | .vcap _ _ len _ => some len
  | .nsl => some 0
  | _ => none
theorem lenV_spec {c : Cx} {x : V} {v : Value} {m : Nat} (h : VR c x v) (hm : lenV x = some m) : ∃ a cap, v = .slice a m cap := by
  cases h with
  | sl fr nn es v h =>
    cases h with
    | sl _ _ a len cap sz rd hlen =>
      simp only [lenV, Option.some.injEq] at hm
      subst hm; subst hlen
      exact ⟨_, _, rfl⟩
  | view id off len p o cap hp ho hl =>
    simp only [lenV, Option.some.injEq] at hm
    subst hm
    exact ⟨_, _, rfl⟩
  | vcap id off len cp p o hp ho hl =>
    simp only [lenV, Option.some.injEq] at hm
    subst hm
    exact ⟨_, _, rfl⟩
  | nsl =>
    simp only [lenV, Option.some.injEq] at hm
    subst hm
    exact ⟨_, _, rfl⟩
  | _ => simp [lenV] at hm
theorem op_len_sl {x : Operand} {ty e : TypeId} {m : Nat} (ho : o.op = .call { callee := .builtin .len, args := #[x], argTypes := #[ty] }) (hm : lenV (E.eval t x) = some m) (hu : E.P.underlying ty = some (.slice e)) :
    OpOK E o t h n [] false (.int .i64 m) [] n :=
  OpOK.value fun c a h2 hx' hg hrd => by
    obtain ⟨b, cap, g1⟩ := lenV_spec (hx' x (by simp [ho, Op.operands, Call.operands])) hm
    refine ⟨.int .i64 m, ?_, .int _ _⟩
    simp [execOp, ho, g1, resolve, invoke, builtin, Builtin.len_, run_underlying hu, goInt]
def bndV (E : Env) (t : Nat → V) : Option Operand → Int → Option Int
  | none, d => some d
  | some x, _ => match E.eval t x with
    | .int _ m => some m
    | _ => none
theorem op_slice_str {ty : TypeId} {x : Operand} {lo hi : Option Operand} {s : ByteArray} {l r : Int} (ho : o.op = .slice ty x lo hi none) (hx : E.eval t x = .str s) (hu : E.P.underlying ty = some .string)
    (hl : bndV E t lo 0 = some l) (hr : bndV E t hi s.size = some r) (h0 : 0 ≤ l) (h1 : l ≤ r) (h2 : r ≤ s.size) : OpOK E o t h n [] false (.str (s.extract l.toNat r.toNat)) [] n :=
  OpOK.value fun c a h2' hx' hg hrd => by
    have g1 := (by have := hx' x (by simp [ho, Op.operands]); rw [hx] at this; exact this.str_inv)
    refine ⟨.string (s.extract l.toNat r.toNat), ?_, .str _⟩
    have hlo : ∀ y, lo = some y → ∃ k, a.eval y = .int k l := by
      intro y hy
      have := hx' y (by simp [ho, Op.operands, hy])
      subst hy
      simp only [bndV] at hl
      split at hl
      · rename_i k m he
        rw [he] at this
        simp only [Option.some.injEq] at hl
        subst hl
        exact ⟨k, this.int_inv⟩
      · cases hl
    have hhi : ∀ y, hi = some y → ∃ k, a.eval y = .int k r := by
      intro y hy
      have := hx' y (by simp [ho, Op.operands, hy])
      subst hy
      simp only [bndV] at hr
      split at hr
      · rename_i k m he
        rw [he] at this
        simp only [Option.some.injEq] at hr
        subst hr
        exact ⟨k, this.int_inv⟩
      · cases hr
    have hr0 : 0 ≤ r := by omega
    have hlr : l ≤ (r.toNat : Int) := by omega
    simp only [execOp, ho, g1]
    cases lo with
    | none =>
      simp only [bndV, Option.some.injEq] at hl
      subst hl
      cases hi with
      | none =>
        simp only [bndV, Option.some.injEq] at hr
        subst hr
        simp [Instr.sliceAt, Instr.slice, Instr.sliceBounds, run_underlying hu]
      | some y =>
        obtain ⟨k, e⟩ := hhi y rfl
        simp [Instr.sliceAt, Instr.slice, Instr.sliceBounds, Instr.sliceBound, run_underlying hu, e, asIntOf, hr0, h2]
    | some z =>
      obtain ⟨k', e'⟩ := hlo z rfl
      cases hi with
      | none =>
        simp only [bndV, Option.some.injEq] at hr
        subst hr
        simp [Instr.sliceAt, Instr.slice, Instr.sliceBounds, Instr.sliceBound, run_underlying hu, e', asIntOf, h0, h1]
      | some y =>
        obtain ⟨k, e⟩ := hhi y rfl
        simp [Instr.sliceAt, Instr.slice, Instr.sliceBounds, Instr.sliceBound, run_underlying hu, e, e', asIntOf, h0, hr0, h2, hlr]
        intro hh; omega
theorem X0 {c : Cx} {a : Act} {x : Option Operand} {d m : Int} (hm : bndV E t x d = some m) (hx : ∀ y, x = some y → VR c (E.eval t y) (a.eval y)) : (x = none ∧ m = d) ∨ ∃ y k, x = some y ∧ a.eval y = .int k m := by
  cases x with
  | none => simp only [bndV, Option.some.injEq] at hm; exact .inl ⟨rfl, hm.symm⟩
  | some y =>
    have := hx y rfl
    simp only [bndV] at hm
    split at hm
    · rename_i k m' he
      rw [he] at this
      simp only [Option.some.injEq] at hm
      subst hm
      exact .inr ⟨y, k, rfl, this.int_inv⟩
    · cases hm
theorem Z2 {P : Program} {w : World} {len cap : Nat} {lo hi : Option Value} {l r : Int} (hl : (lo = none ∧ l = 0) ∨ ∃ k, lo = some (.int k l)) (hr : (hi = none ∧ r = len) ∨ ∃ k, hi = some (.int k r))
    (h0 : 0 ≤ l) (h1 : l ≤ r) (h2 : r ≤ len) (hc : len ≤ cap) : (Instr.sliceBounds true len cap lo hi none).run P w = .ok (l.toNat, r.toNat, cap) w := by
  have hr0 : 0 ≤ r := by omega
  have hrc : r ≤ cap := by omega
  have hlr : l ≤ (r.toNat : Int) := by omega
  rcases hl with ⟨rfl, rfl⟩ | ⟨k, rfl⟩ <;> rcases hr with ⟨rfl, rfl⟩ | ⟨k', rfl⟩
  · simp [Instr.sliceBounds]
  · simp [Instr.sliceBounds, Instr.sliceBound, asIntOf, hr0, hrc]
  · simp [Instr.sliceBounds, Instr.sliceBound, asIntOf, h0, h1]
  · simp [Instr.sliceBounds, Instr.sliceBound, asIntOf, h0, hr0, hrc, hlr]
    intro hh; omega
theorem op_slice_view {ty e : TypeId} {x : Operand} {lo hi : Option Operand} {id off len sz : Nat} {b : Blk} {l r : Int} (ho : o.op = .slice ty x lo hi none) (hx : E.eval t x = .view id off len)
    (hs : sliceP E.P ty = some (e, sz)) (hb : h id = some b) (hbz : b.sz = sz) (hl : bndV E t lo 0 = some l) (hr : bndV E t hi len = some r) (h0 : 0 ≤ l) (h1 : l ≤ r) (h2 : r ≤ len) :
    OpOK E o t h n [id] false (.view id (off + l.toNat) (r.toNat - l.toNat)) [] n :=
  OpOK.value fun c a h2' hx' hg hrd => by
    have g1 := hx' x (by simp [ho, Op.operands])
    rw [hx] at g1
    have gl := X0 hl (fun y hy => hx' y (by simp [ho, Op.operands, hy]))
    have gr := X0 hr (fun y hy => hx' y (by simp [ho, Op.operands, hy]))
    obtain ⟨hu, i, hi', hiz⟩ := H1 hs
    generalize hw : a.eval x = w at g1
    cases g1 with
    | view _ _ _ p off' cap hp hof hlc hpm =>
      obtain ⟨cells, fz, q2, _⟩ := hg.cells (by rw [hrd id (by simp)]; exact hb) hp hpm
      have hpz : p.sz = i.size := by rw [q2, hbz, hiz]
      have hrun := Z2 (P := E.P) (w := c.w) (len := len) (cap := cap) (lo := lo.map a.eval) (hi := hi.map a.eval) (l := l) (r := r)
        (by rcases gl with ⟨rfl, h⟩ | ⟨y, k, rfl, h⟩
            · exact .inl ⟨rfl, h⟩
            · exact .inr ⟨k, by simp [h]⟩)
        (by rcases gr with ⟨rfl, h⟩ | ⟨y, k, rfl, h⟩
            · exact .inl ⟨rfl, h⟩
            · exact .inr ⟨k, by simp [h]⟩) h0 h1 h2 hlc
      have hlcap : l.toNat ≤ cap := by omega
      refine ⟨.slice (some (if cap = l.toNat then ⟨p.b, off', none⟩ else ⟨p.b, off' + l.toNat * i.size, none⟩)) (r.toNat - l.toNat) (cap - l.toNat), ?_, ?_⟩
      · simp [execOp, ho, hw, Instr.sliceAt, Instr.slice, run_underlying hu, hrun, sizeOf, typeInfo, hi', Addr.add_mid]
        split <;> simp_all
      · split
        · rename_i hc
          exact .view _ _ _ p _ _ hp (.inl (by omega)) (by omega)
        · rename_i hc
          refine .view _ _ _ p _ _ hp (.inr ?_) (by omega)
          have hcap : ¬ cap = 0 := by omega
          obtain ⟨e1, e2⟩ := hof.resolve_left hcap
          refine ⟨by rw [e1, hpz, Nat.add_mul]; omega, ?_⟩
          have : l.toNat * p.sz + (cap - l.toNat) * p.sz = cap * p.sz := by rw [← Nat.add_mul]; congr 1; omega
          rw [Nat.add_mul]; omega
theorem op_slice_sl {ty e : TypeId} {x : Operand} {lo hi : Option Operand} {fr nn : Bool} {es : List (List T)} {sz : Nat} {l r : Int} (ho : o.op = .slice ty x lo hi none) (hx : E.eval t x = .sl fr nn es)
    (hs : sliceP E.P ty = some (e, sz)) (hl : bndV E t lo 0 = some l) (hr : bndV E t hi es.length = some r) (h0 : 0 ≤ l) (h1 : l ≤ r) (h2 : r ≤ es.length) (hz : ∀ c ∈ es, c.length = sz) :
    OpOK E o t h n [] false (.sl fr nn ((es.drop l.toNat).take (r.toNat - l.toNat))) [] n :=
  OpOK.value fun c a h2' hx' hg hrd => by
    have g1 := hx' x (by simp [ho, Op.operands])
    rw [hx] at g1
    have gl := X0 hl (fun y hy => hx' y (by simp [ho, Op.operands, hy]))
    have gr := X0 hr (fun y hy => hx' y (by simp [ho, Op.operands, hy]))
    obtain ⟨hu, i, hi', hiz⟩ := H1 hs
    generalize hw : a.eval x = w at g1
    cases g1 with
    | sl _ _ _ _ g1 =>
      cases g1 with
      | sl _ _ A len cap sz' rd hlen hcap hnil hI hsz hrd' hsub =>
        subst hlen
        have hrun := Z2 (P := E.P) (w := c.w) (len := es.length) (cap := cap) (lo := lo.map a.eval) (hi := hi.map a.eval) (l := l) (r := r)
          (by rcases gl with ⟨rfl, h⟩ | ⟨y, k, rfl, h⟩
              · exact .inl ⟨rfl, h⟩
              · exact .inr ⟨k, by simp [h]⟩)
          (by rcases gr with ⟨rfl, h⟩ | ⟨y, k, rfl, h⟩
              · exact .inl ⟨rfl, h⟩
              · exact .inr ⟨k, by simp [h]⟩) h0 h1 h2 hcap
        have hlen' : ((es.drop l.toNat).take (r.toNat - l.toNat)).length = r.toNat - l.toNat := by simp; omega
        refine ⟨.slice (if cap = l.toNat then A else A.map (·.add (l.toNat * i.size))) (r.toNat - l.toNat) (cap - l.toNat), ?_, .sl _ _ _ _ ?_⟩
        · simp [execOp, ho, hw, Instr.sliceAt, Instr.slice, run_underlying hu, hrun, sizeOf, typeInfo, hi']
        · have hg2 : ∀ m j y, get2 ((es.drop l.toNat).take (r.toNat - l.toNat)) m j = some y → get2 es (l.toNat + m) j = some y := by
            intro m j y hy
            unfold get2 at hy ⊢
            cases hm : ((es.drop l.toNat).take (r.toNat - l.toNat))[m]? with
            | none => simp [hm] at hy
            | some cs =>
              have hlt := (List.getElem?_eq_some_iff.1 hm).1
              rw [List.getElem?_take_of_lt (by omega), List.getElem?_drop] at hm
              rw [List.getElem?_take_of_lt (by omega), List.getElem?_drop] at hy
              exact hy
          refine .sl nn _ _ _ _ sz' (fun m j => rd (l.toNat + m) j) hlen'.symm (by omega) (fun hA => ?_) (fun B hB hne => ?_) (fun e he => hsz e (List.mem_of_mem_drop (List.mem_of_mem_take he))) (fun B m j y hB hy => ?_) (fun m j y hy => hsub _ j y (hg2 m j y hy))
          · have : A = none := by
              split at hA
              · exact hA
              · simpa using hA
            obtain ⟨q1, q2, q3⟩ := hnil this
            refine ⟨q1, by simp [q2], by omega⟩
          · have hes : es ≠ [] := fun e => hne (by simp [e])
            split at hB
            · exact hI B hB hes
            · cases hA : A with
              | none => simp [hA] at hB
              | some A' =>
                simp only [hA, Option.map_some, Option.some.injEq] at hB
                obtain ⟨k1, k2⟩ := hI A' hA hes
                subst hB
                unfold Addr.add
                split
                · exact ⟨k1, k2⟩
                · exact ⟨rfl, k2⟩
          · have hy' := hg2 m j y hy
            have hlt : l.toNat + m < es.length := by
              unfold get2 at hy'
              cases hm : es[l.toNat + m]? with
              | none => simp [hm] at hy'
              | some cs => exact (List.getElem?_eq_some_iff.1 hm).1
            have hes : es ≠ [] := fun e => by simp [e] at hlt
            have hcs : sz' = sz := by
              have hm : es[l.toNat + m] ∈ es := List.getElem_mem hlt
              rw [← hsz _ hm, hz _ hm]
            cases hA : A with
            | none => exact absurd (hnil hA).2.1 hes
            | some A' =>
              obtain ⟨k1, k2⟩ := hI A' hA hes
              have := hrd' A' (l.toNat + m) j y hA hy'
              split at hB
              · rename_i hc
                exfalso; omega
              · simp only [hA, Option.map_some, Option.some.injEq] at hB
                subst hB
                rw [← this]
                unfold Addr.add
                split
                · rename_i hz0
                  have : l.toNat * sz' = 0 := by rw [hcs, ← hiz]; exact hz0
                  rw [Nat.add_mul, this, Nat.zero_add]
                · simp only [Nat.add_mul, ← Nat.add_assoc]
                  rw [show l.toNat * i.size = l.toNat * sz' from by rw [hcs, hiz]]
end ops
end Go.V
namespace Go.V
open Go.RowKit (Below)
set_option linter.unusedSimpArgs false
set_option linter.unusedVariables false
structure CellsOK (c : Cx) (vs : Array Value) (cs : List V) : Prop where
  size : vs.size = cs.length
  get : ∀ (k : Nat) (x : V) (v : Value), cs[k]? = some x → vs[k]? = some v → VR c x v
theorem CellsOK.mono {c c' : Cx} {vs : Array Value} {cs : List V} (h : CellsOK c vs cs) (e : Ext c c') : CellsOK c' vs cs := ⟨h.size, fun k x v h1 h2 => (h.get k x v h1 h2).mono e⟩
theorem J9 (off : Nat) : ∀ (l : List Value) (m : Nat) (cells : Array Value), (l.zipIdx m).foldl (fun cs (c, j) => cs.setIfInBounds (off + j) c) cells = setArr cells (off + m) l
  | [], _, _ => rfl
  | v :: r, m, cells => by
    rw [List.zipIdx_cons, List.foldl_cons, J9 off r (m + 1), setArr]
    rfl
theorem CellsOK.blit {c : Cx} {vs : Array Value} {cs : List V} (h : CellsOK c vs cs) {us : Array Value} {xs : List V} (hx : CellsOK c us xs) {off : Nat} (hl : off + xs.length ≤ cs.length) :
    CellsOK c (us.zipIdx.foldl (fun cs (c, j) => cs.setIfInBounds (off + j) c) vs) (splice cs off xs) := by
  have e : us.zipIdx.foldl (fun cs (c, j) => cs.setIfInBounds (off + j) c) vs = setArr vs off us.toList := by
    rw [← Array.foldl_toList, Array.toList_zipIdx]
    exact J9 off us.toList 0 vs
  rw [e]
  refine ⟨by rw [H3, N9 _ _ _ hl, h.size], fun k x v h1 h2 => ?_⟩
  rw [AC _ _ _ hl] at h1
  have hus : us.toList.length = xs.length := by simpa using hx.size
  split at h1
  · rename_i hk
    have hlt : k - off < us.size := by rw [hx.size]; omega
    have := E9 us.toList vs off (k - off) us[k - off] (by rw [hus, h.size]; exact hl) (by simp [hlt])
    rw [show off + (k - off) = k from by omega, h2] at this
    exact hx.get (k - off) x v h1 (by simpa [hlt] using this.symm)
  · rename_i hk
    rw [D5 _ _ _ _ (by rw [hus]; omega)] at h2
    exact h.get k x v h1 h2
def fillV (place : Nat → Option (Nat × Nat)) (cs : List V) : List (Nat × V) → Option (List V)
  | [] => some cs
  | (i, v) :: r => match place i with
    | some (off, size) => if v.known && v.cells.length == size && decide (off + size ≤ cs.length) then fillV place (splice cs off v.cells) r else none
    | none => none
theorem fill_ok {c : Cx} {place : Nat → Option (Nat × Nat)} : ∀ (ps : List (Nat × V)) (qs : List (Nat × Value)) (cs cs' : List V) (vs : Array Value),
    CellsOK c vs cs → ps.length = qs.length → (∀ (k : Nat) (p : Nat × V) (q : Nat × Value), ps[k]? = some p → qs[k]? = some q → p.1 = q.1 ∧ VR c p.2 q.2) → fillV place cs ps = some cs' →
    ∃ vs', Instr.fill place vs qs = some vs' ∧ CellsOK c vs' cs'
  | [], [], cs, cs', vs, h, _, _, hf => by simp only [fillV, Option.some.injEq] at hf; subst hf; exact ⟨vs, rfl, h⟩
  | [], q :: qs, _, _, _, _, hl, _, _ => by simp at hl
  | p :: ps, [], _, _, _, _, hl, _, _ => by simp at hl
  | (i, x) :: ps, (i', v) :: qs, cs, cs', vs, h, hl, hr, hf => by
    have h0 := hr 0 (i, x) (i', v) rfl rfl
    obtain ⟨rfl, hv⟩ := h0
    have hv : VR c x v := hv
    simp only [fillV] at hf
    cases hp : place i with
    | none => simp [hp] at hf
    | some os =>
      obtain ⟨off, size⟩ := os
      simp only [hp] at hf
      split at hf
      · rename_i hc
        simp only [Bool.and_eq_true, beq_iff_eq, decide_eq_true_eq] at hc
        obtain ⟨⟨hk, hz⟩, hle⟩ := hc
        have hcell := hv.cells hk
        have hb := h.blit (us := v.cells) (xs := x.cells) ⟨hcell.1, hcell.2⟩ (off := off) (by omega)
        obtain ⟨vs', h1, h2⟩ := fill_ok ps qs _ cs' _ hb (by simpa using hl) (fun k p q hp hq => hr (k + 1) p q (by simpa using hp) (by simpa using hq)) hf
        refine ⟨vs', ?_, h2⟩
        have hnot : ¬ ((v.cells.size ≠ size || off + v.cells.size > vs.size) = true) := by
          have e1 := hcell.1
          have e2 := h.size
          simp only [ne_eq, decide_not, gt_iff_lt, Bool.or_eq_true, Bool.not_eq_eq_eq_not, Bool.not_true, decide_eq_false_iff_not, decide_eq_true_eq, not_or, Decidable.not_not]
          omega
        simp only [Instr.fill, hp, if_neg hnot]
        exact h1
      · cases hf
def placesP (P : Program) (fs : Array Field) : Option (List (Nat × Nat)) := fs.toList.mapM fun f => (P.info? f.type).map fun i => (f.offset, i.size)
theorem Z3 {P : Program} {w : World} : ∀ (fs : List Field) (ps : List (Nat × Nat)), (fs.mapM fun f => (P.info? f.type).map fun i => (f.offset, i.size)) = some ps →
    ((fs.mapM fun f => (do pure (f.offset, ← sizeOf f.type) : Sem (Nat × Nat)))).run P w = .ok ps w
  | [], ps, h => by simp at h; subst h; simp
  | f :: fs, ps, h => by
    rw [List.mapM_cons] at h
    cases hi : P.info? f.type with
    | none => simp [hi] at h
    | some i =>
      simp only [hi, Option.map_some] at h
      cases hr : (fs.mapM fun f => (P.info? f.type).map fun i => (f.offset, i.size)) with
      | none => simp [hr] at h
      | some rs =>
        simp only [hr] at h
        have : ps = (f.offset, i.size) :: rs := by simpa using h.symm
        subst this
        have ih := Z3 (P := P) (w := w) fs rs hr
        rw [List.mapM_cons]
        simp only [Sem.run_bind, sizeOf, typeInfo, run_program, Result.andThen_ok, hi, Sem.run_pure] at ih ⊢
        rw [ih]
        rfl
def buildV (E : Env) (t : Nat → V) (ty : TypeId) (parts : Array (Nat × Operand)) : Option (List V) :=
  match E.P.underlying ty, zeroV E.P ty with
  | some (.struct fs), some zs => match placesP E.P fs with
    | some ps => fillV (ps[·]?) zs (parts.toList.map fun q => (q.1, E.eval t q.2))
    | none => none
  | some (.array _ e), some zs => match E.P.info? e with
    | some i => fillV (fun k => some (k * i.size, i.size)) zs (parts.toList.map fun q => (q.1, E.eval t q.2))
    | none => none
  | _, _ => none
theorem mapM_arr {P : Program} {w : World} {fs : Array Field} {ps : List (Nat × Nat)} (h : placesP P fs = some ps) :
    ((fs.mapM fun f => (do pure (f.offset, ← sizeOf f.type) : Sem (Nat × Nat)))).run P w = .ok ps.toArray w := by
  rw [Array.mapM_eq_mapM_toList, Sem.run_map, Z3 fs.toList ps h]
  rfl
section ops
variable {E : Env} {o : Oper} {t : Nat → V} {h : Heap} {n : Nat}
theorem parts_ok {c : Cx} {a : Act} {parts : Array (Nat × Operand)} (hx : ∀ x ∈ (parts.toList.map (·.2)).toArray, VR c (E.eval t x) (a.eval x)) :
    (parts.toList.map fun q => (q.1, E.eval t q.2)).length = (parts.map fun q => (q.1, a.eval q.2)).toList.length ∧
    ∀ (k : Nat) (p : Nat × V) (q : Nat × Value), (parts.toList.map fun q => (q.1, E.eval t q.2))[k]? = some p → (parts.map fun q => (q.1, a.eval q.2)).toList[k]? = some q → p.1 = q.1 ∧ VR c p.2 q.2 := by
  refine ⟨by simp, fun k p q hp hq => ?_⟩
  simp only [Array.toList_map, List.getElem?_map] at hp hq
  cases hk : parts.toList[k]? with
  | none => simp [hk] at hp
  | some r =>
    simp only [hk, Option.map_some, Option.some.injEq] at hp hq
    subst hp; subst hq
    refine ⟨rfl, hx r.2 ?_⟩
    simp only [List.mem_toArray, List.mem_map]
    exact ⟨r, List.mem_of_getElem? hk, rfl⟩
theorem op_build {ty : TypeId} {parts : Array (Nat × Operand)} {cs : List V} (ho : o.op = .build ty parts) (hb : buildV E t ty parts = some cs) : OpOK E o t h n [] false (.agg cs) [] n :=
  OpOK.value fun c a h2 hx' hg hrd => by
    have hp := parts_ok (E := E) (t := t) (c := c) (a := a) (parts := parts) (fun x hx => hx' x (by simpa [ho, Op.operands] using hx))
    unfold buildV at hb
    cases hu : E.P.underlying ty with
    | none => simp [hu] at hb
    | some d =>
      cases hz : zeroV E.P ty with
      | none => cases d <;> simp [hu, hz] at hb
      | some zs =>
        obtain ⟨z, hzr, hzs⟩ := N0 hz
        have hzc : CellsOK c z.cells zs := by
          subst hzs
          refine ⟨by simp, fun k x v h1 h2 => ?_⟩
          simp only [List.getElem?_map, Array.getElem?_toList, h2, Option.map_some, Option.some.injEq] at h1
          subst h1
          exact G7 c v
        cases d with
        | struct fs =>
          simp only [hu, hz] at hb
          cases hps : placesP E.P fs with
          | none => simp [hps] at hb
          | some ps =>
            simp only [hps] at hb
            obtain ⟨vs, h1, h2⟩ := fill_ok _ _ zs cs z.cells hzc hp.1 hp.2 hb
            refine ⟨.agg vs, ?_, .agg _ _ h2.size.symm h2.get⟩
            have h1' : Instr.fill (fun x => ps[x]?) z.cells (parts.map fun q => (q.1, a.eval q.2)).toList = some vs := h1
            simp only [execOp, ho, Instr.build, Sem.run_bind, hzr, Result.andThen_ok, run_underlying hu, mapM_arr hps]
            simp only [List.getElem?_toArray, h1', Sem.run_pure, Result.andThen_ok]
        | array m e =>
          simp only [hu, hz] at hb
          cases hi : E.P.info? e with
          | none => simp [hi] at hb
          | some i =>
            simp only [hi] at hb
            obtain ⟨vs, h1, h2⟩ := fill_ok _ _ zs cs z.cells hzc hp.1 hp.2 hb
            refine ⟨.agg vs, ?_, .agg _ _ h2.size.symm h2.get⟩
            simp only [execOp, ho, Instr.build, Sem.run_bind, hzr, Result.andThen_ok, run_underlying hu, sizeOf, typeInfo, run_program, hi, Sem.run_pure]
            simp only [h1, Sem.run_pure, Result.andThen_ok]
        | _ => simp [hu, hz] at hb
def litV (E : Env) (t : Nat → V) (sz : Nat) : List (List V) → List (Nat × Operand) → Option (List (List V))
  | es, [] => some es
  | es, (i, x) :: r => if (E.eval t x).known && (E.eval t x).cells.length == sz && decide (i < es.length) then litV E t sz (es.set i (E.eval t x).cells) r else none
structure RowsOK (c : Cx) (vs : Array Value) (es : List (List V)) (sz : Nat) : Prop where
  size : es.length * sz = vs.size
  each : ∀ e ∈ es, e.length = sz
  get : ∀ i j x, get2 es i j = some x → ∃ u, vs[i * sz + j]? = some u ∧ VR c x u
theorem RowsOK.set {c : Cx} {vs : Array Value} {es : List (List V)} {sz : Nat} (h : RowsOK c vs es sz) {us : Array Value} {xs : List V} (hx : CellsOK c us xs) (hz : xs.length = sz) {i : Nat} (hi : i < es.length) :
    RowsOK c (us.zipIdx.foldl (fun cs (c, j) => cs.setIfInBounds (i * sz + j) c) vs) (es.set i xs) sz := by
  have e : us.zipIdx.foldl (fun cs (c, j) => cs.setIfInBounds (i * sz + j) c) vs = setArr vs (i * sz) us.toList := by
    rw [← Array.foldl_toList, Array.toList_zipIdx]
    exact J9 (i * sz) us.toList 0 vs
  rw [e]
  have hus : us.toList.length = sz := by rw [← hz]; simpa using hx.size
  have hrow : i * sz + sz ≤ vs.size := by
    have : (i + 1) * sz ≤ es.length * sz := Nat.mul_le_mul_right _ hi
    rw [Nat.succ_mul, h.size] at this; exact this
  refine ⟨by rw [H3]; simpa using h.size, fun e he => ?_, fun i' j x hg => ?_⟩
  · rcases List.mem_or_eq_of_mem_set he with h9 | h9
    · exact h.each e h9
    · rw [h9, hz]
  · by_cases hii : i' = i
    · subst hii
      simp only [get2, List.getElem?_set_self hi, Option.bind_some] at hg
      have hlt : j < us.size := by rw [hx.size]; exact (List.getElem?_eq_some_iff.1 hg).1
      exact ⟨us[j], E9 us.toList vs (i' * sz) j us[j] (by omega) (by simp [hlt]), hx.get j x _ hg (by simp [hlt])⟩
    · simp only [get2, List.getElem?_set_ne (Ne.symm hii)] at hg
      obtain ⟨u, h1, h2⟩ := h.get i' j x hg
      refine ⟨u, ?_, h2⟩
      have hj : j < sz := by
        cases hes : es[i']? with
        | none => simp [hes] at hg
        | some e =>
          simp only [hes, Option.bind_some] at hg
          have := (List.getElem?_eq_some_iff.1 hg).1
          rw [h.each e (List.mem_of_getElem? hes)] at this; exact this
      rw [D5, h1]
      rcases Nat.lt_or_gt_of_ne hii with hlt | hgt
      · have : (i' + 1) * sz ≤ i * sz := Nat.mul_le_mul_right _ hlt
        rw [Nat.succ_mul] at this; omega
      · have : (i + 1) * sz ≤ i' * sz := Nat.mul_le_mul_right _ hgt
        rw [Nat.succ_mul] at this; omega
theorem lit_ok {c : Cx} {a : Act} {sz : Nat} : ∀ (ps : List (Nat × Operand)) (es es' : List (List V)) (vs : Array Value), (∀ x ∈ ps.map (·.2), VR c (E.eval t x) (a.eval x)) → RowsOK c vs es sz →
    litV E t sz es ps = some es' → ∃ vs', Instr.fill (fun i => some (i * sz, sz)) vs (ps.map fun q => (q.1, a.eval q.2)) = some vs' ∧ RowsOK c vs' es' sz
  | [], es, es', vs, _, h, hf => by simp only [litV, Option.some.injEq] at hf; subst hf; exact ⟨vs, rfl, h⟩
  | (i, x) :: ps, es, es', vs, hx, h, hf => by
    simp only [litV] at hf
    split at hf
    · rename_i hc
      simp only [Bool.and_eq_true, beq_iff_eq, decide_eq_true_eq] at hc
      obtain ⟨⟨hk, hz⟩, hle⟩ := hc
      have hv := hx x (by simp)
      have hcell := hv.cells hk
      have hs := h.set (us := (a.eval x).cells) (xs := (E.eval t x).cells) ⟨hcell.1, hcell.2⟩ hz hle
      obtain ⟨vs', h1, h2⟩ := lit_ok ps _ es' _ (fun y hy => hx y (by simp only [List.map_cons, List.mem_cons]; exact .inr hy)) hs hf
      refine ⟨vs', ?_, h2⟩
      have hrow : i * sz + sz ≤ vs.size := by
        have : (i + 1) * sz ≤ es.length * sz := Nat.mul_le_mul_right _ hle
        rw [Nat.succ_mul, h.size] at this; exact this
      have e1 := hcell.1
      have hnot : ¬ (((a.eval x).cells.size ≠ sz || i * sz + (a.eval x).cells.size > vs.size) = true) := by
        simp only [ne_eq, decide_not, gt_iff_lt, Bool.or_eq_true, Bool.not_eq_eq_eq_not, Bool.not_true, decide_eq_false_iff_not, decide_eq_true_eq, not_or, Decidable.not_not]
        omega
      simp only [List.map_cons, Instr.fill, if_neg hnot]
      exact h1
    · cases hf
theorem op_buildSlice {ty e : TypeId} {m sz : Nat} {parts : Array (Nat × Operand)} {zs : List V} {es : List (List V)} (ho : o.op = .buildSlice ty m parts) (hs : sliceP E.P ty = some (e, sz)) (hz : zeroV E.P e = some zs)
    (hzs : zs.length = sz) (h0 : sz ≠ 0) (hb : m * sz ≤ 16777216) (hl : litV E t sz (List.replicate m zs) parts.toList = some es) (hc : (es.all fun x => x.all V.cell) = true) :
    OpOK E o t h n [] false (.view n 0 m) [(n, some ⟨es, sz, e⟩)] (n + 1) := by
  obtain ⟨z, hzr, hzv⟩ := N0 hz
  obtain ⟨hu, i, hi, hiz⟩ := H1 hs
  have hzsz : z.cells.size = sz := by rw [← hzs, hzv]; simp
  have main : ∀ (c : Cx) (a : Act), (∀ x ∈ o.op.operands, VR c (E.eval t x) (a.eval x)) →
      ∃ vs, Instr.fill (fun i => some (i * sz, sz)) ((Array.range (m * sz)).map (z.cells[· % z.cells.size]!)) (parts.map fun q => (q.1, a.eval q.2)).toList = some vs ∧ RowsOK c vs es sz := by
    intro c a hx
    have hrow : RowsOK c ((Array.range (m * sz)).map (z.cells[· % z.cells.size]!)) (List.replicate m zs) sz := by
      refine ⟨by simp, fun e he => by rw [List.eq_of_mem_replicate he]; exact hzs, fun k j x hg => ?_⟩
      unfold get2 at hg
      cases hk : (List.replicate m zs)[k]? with
      | none => simp [hk] at hg
      | some y =>
        have hy := List.eq_of_mem_replicate (List.mem_of_getElem? hk)
        have hkm : k < m := by have := (List.getElem?_eq_some_iff.1 hk).1; simpa using this
        subst hy
        simp only [hk, Option.bind_some] at hg
        have hj : j < sz := by rw [← hzs]; exact (List.getElem?_eq_some_iff.1 hg).1
        have hlt : k * sz + j < m * sz := by
          have : (k + 1) * sz ≤ m * sz := Nat.mul_le_mul_right _ hkm
          rw [Nat.succ_mul] at this; omega
        have hmod : (k * sz + j) % z.cells.size = j := by
          rw [hzsz, Nat.mul_comm, Nat.mul_add_mod, Nat.mod_eq_of_lt hj]
        have hjz : j < z.cells.size := by omega
        refine ⟨z.cells[j], ?_, ?_⟩
        · simp [hlt, hmod, hjz]
        · subst hzv
          simp only [List.getElem?_map, Array.getElem?_toList] at hg
          rw [Array.getElem?_eq_getElem hjz] at hg
          simp only [Option.map_some, Option.some.injEq] at hg
          subst hg
          exact G7 c _
    obtain ⟨vs, h1, h2⟩ := lit_ok (E := E) (t := t) (c := c) (a := a) (sz := sz) parts.toList _ es _ (fun x hx' => hx x (by simpa [ho, Op.operands] using hx')) hrow hl
    exact ⟨vs, by simpa using h1, h2⟩
  
  have hlen : ∀ (ps : List (Nat × Operand)) (xs ys : List (List V)), litV E t sz xs ps = some ys → (∀ e ∈ xs, e.length = sz) → ys.length = xs.length ∧ ∀ e ∈ ys, e.length = sz := by
    intro ps
    induction ps with
    | nil => intro xs ys h1 h2; simp only [litV, Option.some.injEq] at h1; subst h1; exact ⟨rfl, h2⟩
    | cons q r ih =>
      intro xs ys h1 h2
      obtain ⟨i, x⟩ := q
      simp only [litV] at h1
      split at h1
      · rename_i hc
        simp only [Bool.and_eq_true, beq_iff_eq, decide_eq_true_eq] at hc
        obtain ⟨k1, k2⟩ := ih _ _ h1 (fun e he => by
          rcases List.mem_or_eq_of_mem_set he with h9 | h9
          · exact h2 e h9
          · rw [h9]; exact hc.1.2)
        exact ⟨by simpa using k1, k2⟩
      · cases h1
  obtain ⟨hel, hee⟩ := hlen _ _ _ hl (fun e he => by rw [List.eq_of_mem_replicate he]; exact hzs)
  simp only [List.length_replicate] at hel
  refine OpOK.makes hee fun c a h2 hx hg => ?_
  obtain ⟨vs, h1, h3⟩ := main c a hx
  refine ⟨vs, .slice (some ⟨c.w.heap.size, 0, none⟩) m m, ?_, h3.size, fun k j x hg2 => ?_, fun c' hc' => ?_⟩
  · have hnb : ¬ m * sz > 2 ^ 24 := by have : (2:Nat) ^ 24 = 16777216 := (by decide); omega
    by_cases hm : m * sz = 0
    · have hm0 : m = 0 := by
        rcases Nat.mul_eq_zero.1 hm with h | h
        · exact h
        · exact absurd h h0
      subst hm0
      simp only [Nat.zero_mul] at h1
      simp only [execOp, ho, Instr.buildSlice, Sem.run_bind, run_underlying hu, Result.andThen_ok, sizeOf, typeInfo, run_program, hi, Sem.run_pure, hiz, Nat.zero_mul, gt_iff_lt, Nat.not_lt_zero, if_false, if_true]
      have e1 : (Array.range 0).map (fun x => (#[] : Array Value)[x % (#[] : Array Value).size]!) = (Array.range 0).map (fun x => z.cells[x % z.cells.size]!) := by simp
      rw [e1, h1]
      simp [newRow]
    · simp only [execOp, ho, Instr.buildSlice, Sem.run_bind, run_underlying hu, Result.andThen_ok, sizeOf, typeInfo, run_program, hi, Sem.run_pure, hiz, if_neg hnb, if_neg hm, hzr]
      rw [h1]
      simp [newRow]
  · obtain ⟨u, k1, k2⟩ := h3.get k j x hg2
    refine ⟨u, k1, k2, k2.oneCell ?_⟩
    unfold get2 at hg2
    cases hk : es[k]? with
    | none => simp [hk] at hg2
    | some y =>
      simp only [hk, Option.bind_some] at hg2
      exact (List.all_eq_true.1 ((List.all_eq_true.1 hc) y (List.mem_of_getElem? hk))) x (List.mem_of_getElem? hg2)
  · have := VR.view (c := c') n 0 m _ 0 m hc' (.inr ⟨by simp, by simp [← h3.size, hel]⟩) (Nat.le_refl _)
    simpa using this
end ops
end Go.V
namespace Go.V
open Go.RowKit (Below)
set_option linter.unusedSimpArgs false
set_option linter.unusedVariables false
def srcV (h : Heap) : V → Option (List (List V))
  | .view id off len => match h id with
    | some b => if off + len ≤ b.es.length then some ((b.es.drop off).take len) else none
    | none => none
  | .sl fr _ es => some (es.map (·.map (T.toV fr)))
  | .nsl => some []
  | .str s => some (s.data.toList.map fun b => [.int .u8 b.toNat])
  | _ => none
def srcIds : V → List Nat
  | .view id _ _ => [id]
  | _ => []
theorem O7 {h h2 : Heap} {x : V} (he : ∀ id ∈ srcIds x, h2 id = h id) : srcV h2 x = srcV h x := by
  cases x with
  | view id off len => simp only [srcV]; rw [he id (by simp [srcIds])]
  | _ => rfl
structure SrcOK (P : Program) (c : Cx) (v : Value) (ys : List (List V)) (sz : Nat) (news : List Value) : Prop where
  len : ∀ w, (Builtin.lenOf v).run P w = .ok ys.length w
  size : news.length = ys.length * sz
  first : ∀ w, w.heap = c.w.heap → (Builtin.firstCells sz ys.length v).run P w = .ok news.toArray w
  one : ∀ u ∈ news, u.oneCell' = true
  get : ∀ i j x, get2 ys i j = some x → ∃ u, news[i * sz + j]? = some u ∧ VR c x u
theorem div_mod {sz k m : Nat} (hz : sz ≠ 0) (hk : k < m * sz) : k / sz < m ∧ k % sz < sz ∧ k / sz * sz + k % sz = k := by
  refine ⟨(Nat.div_lt_iff_lt_mul (by omega)).2 hk, Nat.mod_lt _ (by omega), ?_⟩
  rw [Nat.mul_comm]; exact Nat.div_add_mod k sz
theorem Z4 {sz i j : Nat} (hj : j < sz) : (i * sz + j) / sz = i ∧ (i * sz + j) % sz = j := by
  have h0 : 0 < sz := by omega
  constructor
  · rw [Nat.mul_comm, Nat.mul_add_div h0, Nat.div_eq_of_lt hj]; omega
  · rw [Nat.mul_comm, Nat.mul_add_mod, Nat.mod_eq_of_lt hj]
theorem src_ok {E : Env} {c : Cx} {h : Heap} (hg : Good E c h) {x : V} {v : Value} (hv : VR c x v) {ys : List (List V)} {sz : Nat} (hs : srcV h x = some ys) (hz : sz ≠ 0) (hy : ∀ e ∈ ys, e.length = sz) :
    ∃ news, SrcOK E.P c v ys sz news := by
  cases hv with
  | nsl =>
    simp only [srcV, Option.some.injEq] at hs
    subst hs
    exact ⟨[], fun w => by simp [Builtin.lenOf], by simp, fun w _ => by simp [Builtin.firstCells], by simp, by simp [get2]⟩
  | str s =>
    simp only [srcV, Option.some.injEq] at hs
    subst hs
    by_cases hs0 : s.data.toList = []
    · refine ⟨[], fun w => ?_, by simp [hs0], fun w _ => ?_, by simp, by simp [get2, hs0]⟩
      · simp only [Builtin.lenOf, Sem.run_pure, hs0]
        have : s.size = 0 := by
          have : s.data.toList.length = 0 := by rw [hs0]; rfl
          simpa using this
        rw [this]; rfl
      · have h1 : s.data = #[] := by
          have : s.data.toList.toArray = #[] := by rw [hs0]
          simpa using this
        simp [Builtin.firstCells, h1]
    · have hsz : sz = 1 := by
        obtain ⟨b, hb⟩ := List.exists_mem_of_ne_nil _ hs0
        have := hy [.int .u8 b.toNat] (List.mem_map.2 ⟨b, hb, rfl⟩)
        simpa using this.symm
      subst hsz
      refine ⟨s.data.toList.map fun b => Value.int .u8 b.toNat, fun w => ?_, by simp, fun w _ => ?_, ?_, fun i j x hx => ?_⟩
      · simp [Builtin.lenOf]
      · have hx : (s.extract 0 s.data.size).data = s.data := by
          have : s.extract 0 s.size = s := ByteArray.extract_zero_size
          have h2 : s.data.size = s.size := rfl
          rw [h2, this]
        simp only [Builtin.firstCells, List.length_map, Array.length_toList, Sem.run_pure]
        rw [hx, List.map_toArray.symm]
      · intro u hu
        obtain ⟨b, _, rfl⟩ := List.mem_map.1 hu
        rfl
      · unfold get2 at hx
        rw [List.getElem?_map] at hx
        cases hb : s.data.toList[i]? with
        | none => simp [hb] at hx
        | some b =>
          simp only [hb, Option.map_some, Option.bind_some] at hx
          cases j with
          | zero =>
            simp only [List.getElem?_cons_zero, Option.some.injEq] at hx
            subst hx
            exact ⟨.int .u8 b.toNat, by rw [Nat.mul_one, Nat.add_zero, List.getElem?_map, hb]; rfl, .int _ _⟩
          | succ j => simp at hx
  | sl fr nn es v hv =>
    simp only [srcV, Option.some.injEq] at hs
    subst hs
    cases hv with
    | sl _ _ A len cap sz' rd hlen hcap hnil hI hsz hrd hsub =>
      subst hlen
      by_cases hes : es = []
      · subst hes
        refine ⟨[], fun w => by simp [Builtin.lenOf], by simp, fun w _ => ?_, by simp, by simp [get2]⟩
        cases A <;> simp [Builtin.firstCells, loadCells, loadCellsFrom]
      · have hzz : sz' = sz := by
          obtain ⟨e, he⟩ := List.exists_mem_of_ne_nil _ hes
          have := hy (e.map (T.toV fr)) (List.mem_map.2 ⟨e, he, rfl⟩)
          rw [List.length_map, hsz e he] at this
          exact this
        subst hzz
        cases A with
        | none => exact absurd (hnil rfl).2.1 hes
        | some A =>
          obtain ⟨b, off, sp⟩ := A
          obtain ⟨h1, h2⟩ := hI _ rfl hes
          simp only at h1 h2
          subst h1
          have hg2 : ∀ k, k < es.length * sz' → ∃ y, get2 es (k / sz') (k % sz') = some y := by
            intro k hk
            obtain ⟨k1, k2, k3⟩ := div_mod hz hk
            refine ⟨es[k / sz'][k % sz']'(by rw [hsz _ (List.getElem_mem k1)]; exact k2), ?_⟩
            simp [get2, k1, k2, hsz _ (List.getElem_mem k1)]
          refine ⟨(List.range (es.length * sz')).map fun k => rd (k / sz') (k % sz'), fun w => by simp [Builtin.lenOf], by simp, fun w hw => ?_, fun u hu => ?_, fun i j x hx => ?_⟩
          · refine run_firstCells_some (P := E.P) w sz' _ ⟨b, off, none⟩ es.length cap _ (by simp) fun k u hu => ?_
            have hk : k < es.length * sz' := by
              have := (List.getElem?_eq_some_iff.1 hu).1
              simpa using this
            simp only [List.getElem?_map, List.getElem?_range hk, Option.map_some, Option.some.injEq] at hu
            subst hu
            obtain ⟨y, hy'⟩ := hg2 k hk
            have := hrd _ _ _ _ rfl hy'
            obtain ⟨k1, k2, k3⟩ := div_mod hz hk
            rw [Addr.add_mid, I8 (w := c.w) (by rw [hw])]
            rw [← this]
            simp only [Nat.add_assoc, k3]
          · obtain ⟨k, hk, rfl⟩ := List.mem_map.1 hu
            obtain ⟨y, hy'⟩ := hg2 k (List.mem_range.1 hk)
            exact (hsub _ _ _ hy').toV.oneCell (by cases y <;> rfl)
          · unfold get2 at hx
            rw [List.getElem?_map] at hx
            cases he : es[i]? with
            | none => simp [he] at hx
            | some e =>
              simp only [he, Option.map_some, Option.bind_some, List.getElem?_map] at hx
              cases hj : e[j]? with
              | none => simp [hj] at hx
              | some y =>
                simp only [hj, Option.map_some, Option.some.injEq] at hx
                subst hx
                have hil : i < es.length := (List.getElem?_eq_some_iff.1 he).1
                have hjl : j < sz' := by rw [← hsz e (List.mem_of_getElem? he)]; exact (List.getElem?_eq_some_iff.1 hj).1
                have hlt : i * sz' + j < es.length * sz' := by
                  have : (i + 1) * sz' ≤ es.length * sz' := Nat.mul_le_mul_right _ hil
                  rw [Nat.succ_mul] at this; omega
                obtain ⟨q1, q2⟩ := Z4 (i := i) hjl
                refine ⟨rd i j, by simp [List.getElem?_map, List.getElem?_range hlt, q1, q2], (hsub i j y (by simp [get2, he, hj])).toV⟩
  | view id off len p o cap hp ho hl hpm =>
    simp only [srcV] at hs
    cases hb : h id with
    | none => simp [hb] at hs
    | some b =>
      simp only [hb] at hs
      split at hs
      · rename_i hle
        simp only [Option.some.injEq] at hs
        subst hs
        obtain ⟨cells, fz, q2, q3, q4, q5, q6, q7, q8⟩ := hg.cells hb hp hpm
        have hyl : ((b.es.drop off).take len).length = len := by simp; omega
        by_cases hlen0 : len = 0
        · subst hlen0
          exact ⟨[], fun w => by simp [Builtin.lenOf], by simp, fun w _ => by simp [Builtin.firstCells, loadCells, loadCellsFrom], by simp, by simp [get2]⟩
        · have hbz : b.sz = sz := by
            have hlt : off < b.es.length := by omega
            have hm : b.es[off] ∈ (b.es.drop off).take len := by
              refine List.mem_of_getElem? (i := 0) ?_
              rw [List.getElem?_take_of_lt (by omega), List.getElem?_drop]
              simp [hlt]
            have := hy _ hm
            rw [q7 _ (List.getElem_mem hlt)] at this
            exact this
          obtain ⟨e1, e2⟩ := ho.resolve_left (by omega)
          rw [q2, hbz] at e1
          have hg2 : ∀ k, k < len * sz → ∃ y u, get2 b.es (off + k / sz) (k % sz) = some y ∧ cells[o + k]? = some u ∧ VR c y u ∧ u.oneCell' = true := by
            intro k hk
            obtain ⟨k1, k2, k3⟩ := div_mod hz hk
            have hlt : off + k / sz < b.es.length := by omega
            have hel := q7 _ (List.getElem_mem hlt)
            have hlt2 : k % sz < (b.es[off + k / sz]).length := by rw [hel, hbz]; exact k2
            have hy2 : get2 b.es (off + k / sz) (k % sz) = some (b.es[off + k / sz])[k % sz] := by simp [get2, hlt, hlt2]
            obtain ⟨u, g1, g2, g3⟩ := q8 _ _ _ hy2
            refine ⟨_, u, hy2, ?_, g2, g3⟩
            rw [← g1, hbz, e1]
            congr 1
            rw [Nat.add_mul]; omega
          refine ⟨(List.range (len * sz)).map fun k => (cells[o + k]?).getD undef, fun w => by simp [Builtin.lenOf, hyl], by simp [hyl], fun w hw => ?_, fun u hu => ?_, fun i j x hx => ?_⟩
          · rw [hyl]
            refine run_firstCells_some (P := E.P) w sz _ ⟨p.b, o, none⟩ len cap _ (by simp) fun k u hu => ?_
            have hk : k < len * sz := by
              have := (List.getElem?_eq_some_iff.1 hu).1
              simpa using this
            simp only [List.getElem?_map, List.getElem?_range hk, Option.map_some, Option.some.injEq] at hu
            subst hu
            obtain ⟨y, u, _, g2, _, _⟩ := hg2 k hk
            rw [Addr.add_mid]
            simp [World.cell?, hw, q3, g2]
          · obtain ⟨k, hk, rfl⟩ := List.mem_map.1 hu
            obtain ⟨y, u, _, g2, _, g4⟩ := hg2 k (List.mem_range.1 hk)
            rw [g2]; exact g4
          · unfold get2 at hx
            have hil : i < len := by
              cases hi : ((b.es.drop off).take len)[i]? with
              | none => simp [hi] at hx
              | some _ => have := (List.getElem?_eq_some_iff.1 hi).1; omega
            rw [List.getElem?_take_of_lt hil, List.getElem?_drop] at hx
            have hlt : off + i < b.es.length := by omega
            simp only [hlt, List.getElem?_eq_getElem, Option.bind_some] at hx
            have hjl : j < sz := by
              have := (List.getElem?_eq_some_iff.1 hx).1
              rw [q7 _ (List.getElem_mem hlt), hbz] at this; exact this
            have hlt2 : i * sz + j < len * sz := by
              have : (i + 1) * sz ≤ len * sz := Nat.mul_le_mul_right _ hil
              rw [Nat.succ_mul] at this; omega
            obtain ⟨y, u, g1, g2, g3, _⟩ := hg2 (i * sz + j) hlt2
            obtain ⟨d1, d2⟩ := Z4 (i := i) hjl
            rw [d1, d2] at g1
            have : y = x := by
              simp only [get2, hlt, List.getElem?_eq_getElem, Option.bind_some] at g1
              rw [g1] at hx; exact Option.some.inj hx
            subst this
            exact ⟨u, by simp [List.getElem?_map, List.getElem?_range hlt2, g2], g3⟩
      · cases hs
  | _ => simp [srcV] at hs
theorem U3 {P : Program} {w : World} {t tx ty e : TypeId} {dx : TypeDesc} {i : TypeInfo} (ht : P.underlying t = some (.slice e)) (htx : P.underlying tx = some dx) (hdx : dx = .string ∨ ∃ e', dx = .slice e')
    (hi : P.info? e = some i) {b o sLen sCap n : Nat} {x : Value} {news : List Value} (hlx : (Builtin.lenOf x).run P w = .ok n w) (hf : (Builtin.firstCells i.size n x).run P w = .ok news.toArray w)
    (hroom : sLen + n ≤ sCap) (hth : w.there b (o + sLen * i.size) news.length) (h1 : ∀ u ∈ news, u.oneCell' = true) :
    (Builtin.append_ #[t, tx] ty #[.slice (some ⟨b, o, none⟩) sLen sCap, x]).run P w = .ok (.slice (some ⟨b, o, none⟩) (sLen + n) sCap) (w.setCells b (o + sLen * i.size) news) := by
  have hst := run_storeCells_cells (P := P) b (o + sLen * i.size) news 0 w (fun j hj => by simpa using (hth j hj).1) (fun j hj => by simpa using (hth j hj).2) h1
  simp only [Nat.add_zero] at hst
  rcases hdx with rfl | ⟨e', rfl⟩
  · simp [Builtin.append_, run_underlying ht, run_underlying htx, sizeOf, typeInfo, hi, hlx, hroom, hf, Addr.add_mid, hst]
  · simp [Builtin.append_, run_underlying ht, run_underlying htx, sizeOf, typeInfo, hi, hlx, hroom, hf, Addr.add_mid, hst]
theorem J3 {P : Program} {w : World} {t tx ty e : TypeId} {dx : TypeDesc} {i : TypeInfo} {z : Value} (ht : P.underlying t = some (.slice e)) (htx : P.underlying tx = some dx) (hdx : dx = .string ∨ ∃ e', dx = .slice e')
    (hi : P.info? e = some i) (hz : i.zero = some z) {base : Option Addr} {sLen sCap n : Nat} {x : Value} {olds news : List Value} (hlx : (Builtin.lenOf x).run P w = .ok n w)
    (hfo : (Builtin.firstCells i.size sLen (.slice base sLen sCap)).run P w.drew = .ok olds.toArray w.drew)
    (hf : (Builtin.firstCells i.size n x).run P w.drew = .ok news.toArray w.drew) (hg : sCap < sLen + n) (h63 : ((sLen + n : Nat) : Int) ≤ 9223372036854775807)
    (hfit : Builtin.nextslicecap (sLen + n) sCap * i.bytes ≤ 281474976710656) :
    (Builtin.append_ #[t, tx] ty #[.slice base sLen sCap, x]).run P w = .ok (.slice (some ⟨w.heap.size, 0, none⟩) (sLen + n) (grownCap w (sLen + n) sCap e))
        (w.drew.alloc (.cells ((olds ++ news).toArray ++ Builtin.zeroCells z.cells (grownCap w (sLen + n) sCap e - (sLen + n))) e)) := by
  have hn : ¬ (sLen + n ≤ sCap) := by omega
  have h63' : ¬ (9223372036854775807 < ((sLen : Int) + (n : Int))) := by omega
  have h48' : ¬ (281474976710656 < Builtin.nextslicecap (sLen + n) sCap * i.bytes) := by omega
  have ha : (olds ++ news).toArray = olds.toArray ++ news.toArray := by simp
  rcases hdx with rfl | ⟨e', rfl⟩
  · simp [Builtin.append_, run_underlying ht, run_underlying htx, sizeOf, typeInfo, zeroValue, hi, hz, hlx, hn, h63', h48', Question.forced, hfo, hf, newRow, grownCap, ha, Array.append_assoc, -List.append_toArray]
  · simp [Builtin.append_, run_underlying ht, run_underlying htx, sizeOf, typeInfo, zeroValue, hi, hz, hlx, hn, h63', h48', Question.forced, hfo, hf, newRow, grownCap, ha, Array.append_assoc, -List.append_toArray]
def elemP (P : Program) (ty : TypeId) : Option (TypeId × Nat × Nat) :=
  match P.underlying ty with
  | some (.slice e) => match P.info? e with
    | some i => match i.zero with
      | some z => if z.cells.size = i.size then some (e, i.size, i.bytes) else none
      | none => none
    | none => none
  | _ => none
theorem O8 {P : Program} {ty e : TypeId} {sz by' : Nat} (h : elemP P ty = some (e, sz, by')) : ∃ i z, P.underlying ty = some (.slice e) ∧ P.info? e = some i ∧ i.zero = some z ∧ i.size = sz ∧ i.bytes = by' ∧ z.cells.size = sz := by
  unfold elemP at h
  split at h
  · rename_i e' hu
    split at h
    · rename_i i hi
      split at h
      · rename_i z hz
        split at h
        · rename_i hzz
          simp only [Option.some.injEq, Prod.mk.injEq] at h
          obtain ⟨rfl, rfl, rfl⟩ := h
          exact ⟨i, z, hu, hi, hz, rfl, rfl, hzz⟩
        · cases h
      · cases h
    · cases h
  · cases h
def srcP (P : Program) (tx : TypeId) : Bool :=
  match P.underlying tx with
  | some .string | some (.slice _) => true
  | _ => false
theorem srcP_spec {P : Program} {tx : TypeId} (h : srcP P tx = true) : ∃ d, P.underlying tx = some d ∧ (d = .string ∨ ∃ e', d = .slice e') := by
  unfold srcP at h
  split at h
  · rename_i hu; exact ⟨_, hu, .inl rfl⟩
  · rename_i hu; exact ⟨_, hu, .inr ⟨_, rfl⟩⟩
  · cases h
theorem Good.drew {E : Env} {c : Cx} {h : Heap} (hg : Good E c h) : Good E { c with w := c.w.drew } h := hg.same (Ext.same c j4) rfl
section ops
variable {E : Env} {o : Oper} {t : Nat → V} {h : Heap} {n : Nat}
theorem Z5 {c : Cx} {xs ys : List (List V)} {olds news : List Value} {rest : Array Value} {sz : Nat} (hx : olds.length = xs.length * sz) (hy : news.length = ys.length * sz)
    (hxe : ∀ e ∈ xs, e.length = sz) (hye : ∀ e ∈ ys, e.length = sz)
    (hxg : ∀ i j x, get2 xs i j = some x → ∃ u, olds[i * sz + j]? = some u ∧ VR c x u) (hyg : ∀ i j x, get2 ys i j = some x → ∃ u, news[i * sz + j]? = some u ∧ VR c x u) :
    ∀ i j x, get2 (xs ++ ys) i j = some x → ∃ u, ((olds ++ news).toArray ++ rest)[i * sz + j]? = some u ∧ VR c x u := by
  intro i j x hg
  have hlt : ∀ (l : List (List V)) (i j : Nat) (x : V), (∀ e ∈ l, e.length = sz) → get2 l i j = some x → i < l.length ∧ j < sz := by
    intro l i j x he hg
    unfold get2 at hg
    cases hi : l[i]? with
    | none => simp [hi] at hg
    | some e =>
      simp only [hi, Option.bind_some] at hg
      refine ⟨(List.getElem?_eq_some_iff.1 hi).1, ?_⟩
      rw [← he e (List.mem_of_getElem? hi)]
      exact (List.getElem?_eq_some_iff.1 hg).1
  by_cases hi : i < xs.length
  · have hg' : get2 xs i j = some x := by
      unfold get2 at hg ⊢
      rw [List.getElem?_append_left hi] at hg; exact hg
    obtain ⟨u, h1, h2⟩ := hxg i j x hg'
    refine ⟨u, ?_, h2⟩
    have hk : i * sz + j < olds.length := (List.getElem?_eq_some_iff.1 h1).1
    rw [Array.getElem?_append_left (by simp; omega)]
    simp only [List.getElem?_toArray]
    rw [List.getElem?_append_left hk]; exact h1
  · have hg' : get2 ys (i - xs.length) j = some x := by
      unfold get2 at hg ⊢
      rw [List.getElem?_append_right (by omega)] at hg; exact hg
    obtain ⟨u, h1, h2⟩ := hyg _ j x hg'
    refine ⟨u, ?_, h2⟩
    have hk : (i - xs.length) * sz + j < news.length := (List.getElem?_eq_some_iff.1 h1).1
    have e1 : i * sz + j - olds.length = (i - xs.length) * sz + j := by
      rw [hx, Nat.sub_mul]
      have : xs.length * sz ≤ i * sz := Nat.mul_le_mul_right _ (by omega)
      omega
    have e2 : olds.length ≤ i * sz + j := by
      rw [hx]
      have : xs.length * sz ≤ i * sz := Nat.mul_le_mul_right _ (by omega)
      omega
    rw [Array.getElem?_append_left (by simp; omega)]
    simp only [List.getElem?_toArray]
    rw [List.getElem?_append_right e2, e1]; exact h1
theorem op_append_nil {ty tx e : TypeId} {x y : Operand} {sz by' : Nat} {ys : List (List V)} (ho : o.op = .call { callee := .builtin .append, args := #[x, y], argTypes := #[ty, tx] })
    (hx : E.eval t x = .nsl) (hs : elemP E.P ty = some (e, sz, by')) (htx : srcP E.P tx = true) (h0 : sz ≠ 0) (hy : srcV h (E.eval t y) = some ys) (hyz : ∀ c ∈ ys, c.length = sz) (hne : 0 < ys.length)
    (hb : ys.length * by' ≤ 140737488355328) (hl : ys.length ≤ 9223372036854775807) :
    OpOK E o t h n (srcIds (E.eval t y)) false (.view n 0 ys.length) [(n, some ⟨ys, sz, e⟩)] (n + 1) := by
  intro c a h2 K Q hd hx' hg hrd _ hf hK
  have g1 := (by have := hx' x (by simp [ho, Op.operands, Call.operands]); rw [hx] at this; exact this.nsl_inv)
  have g2 := hx' y (by simp [ho, Op.operands, Call.operands])
  obtain ⟨i, z, hu, hi, hz, rfl, rfl, hzz⟩ := O8 hs
  obtain ⟨d, htu, hdi⟩ := srcP_spec htx
  obtain ⟨news, hsrc⟩ := src_ok hg g2 (by rw [O7 hrd]; exact hy) h0 hyz
  have hn : c.ρ n = none := hf n (Nat.le_refl _) (by omega)
  have hxd : Ext c { c with w := c.w.drew } := Ext.same c j4
  have hgd := hg.drew
  have hrun := J3 (P := E.P) (w := c.w) (ty := o.type) (base := none) (sLen := 0) (sCap := 0) (x := a.eval y) (olds := []) (news := news) hu htu hdi hi hz (hsrc.len _) (by simp [Builtin.firstCells]) (hsrc.first _ rfl)
    (by omega) (by omega) (growslice_fits (by omega) (by rw [Nat.zero_add]; exact hb))
  have hge := grownCap_ge c.w (0 + ys.length) 0 e
  generalize hcap : grownCap c.w (0 + ys.length) 0 e = cap at hrun hge
  simp only [Nat.zero_add, List.nil_append] at hrun hge
  have hex : (execOp a.eval o).run E.P c.w = .ok (.value (.slice (some ⟨c.w.heap.size, 0, none⟩) ys.length cap)) (({ c with w := c.w.drew } : Cx).new n (news.toArray ++ Builtin.zeroCells z.cells (cap - ys.length)) e i.size).w := by
    simp [execOp, ho, g1, resolve, invoke, builtin, hrun, Cx.new]
  unfold Oper.wp
  rw [hex, Oper.upon_value]
  have hrows := Z5 (c := c) (xs := []) (ys := ys) (olds := []) (news := news) (rest := Builtin.zeroCells z.cells (cap - ys.length)) (sz := i.size) (by simp) hsrc.size (by simp) hyz (by simp [get2]) hsrc.get
  have hone : ∀ k u, (news.toArray ++ Builtin.zeroCells z.cells (cap - ys.length))[k]? = some u → k < news.length → u.oneCell' = true := by
    intro k u hk hlt
    rw [Array.getElem?_append_left (by simpa using hlt)] at hk
    exact hsrc.one u (List.mem_of_getElem? (by simpa using hk))
  have hsize : (news.toArray ++ Builtin.zeroCells z.cells (cap - ys.length)).size = cap * i.size := by
    simp only [Array.size_append, List.size_toArray, size_zeroCells, hsrc.size, hzz]
    rw [← Nat.add_mul]; congr 1; omega
  have hx2 := Cx.new_ext hgd (n := n) hn (news.toArray ++ Builtin.zeroCells z.cells (cap - ys.length)) e i.size
  refine hK _ _ (hxd.trans hx2) (Good.new hgd hn _ e i.size ys ?_ hyz fun i' j x hx => ?_) (new_dom _ _ _ _ _) ?_
  · rw [hsize]; exact Nat.mul_le_mul_right _ hge
  · obtain ⟨u, k1, k2⟩ := hrows i' j x (by simpa using hx)
    simp only [List.nil_append] at k1
    refine ⟨u, k1, k2.mono (hxd.trans hx2), ?_⟩
    have h9 := hsrc.get i' j x hx
    obtain ⟨u', k3, k4⟩ := h9
    exact hone _ u k1 (List.getElem?_eq_some_iff.1 k3).1
  · have := VR.view (c := ({ c with w := c.w.drew } : Cx).new n (news.toArray ++ Builtin.zeroCells z.cells (cap - ys.length)) e i.size) n 0 ys.length ⟨c.w.heap.size, 0, _, i.size, false⟩ 0 cap (by simp [Cx.new]; rfl) (.inr ⟨by simp, ?_⟩) hge
    · simpa using this
    · simp only [Nat.zero_mul, Nat.zero_add]
      rw [← hsize]; simp
def Cx.onto (c : Cx) (n : Nat) (p : Place) (k : Nat) (o : Nat) (vs : List Value) : Cx :=
  { c with ρ := upd c.ρ n (some ⟨p.b, p.o + k, p.cap - k, p.sz, false⟩), w := c.w.setCells p.b o vs }
theorem Good.onto {c : Cx} {h : Heap} (hg : Good E c h) {id n : Nat} {b : Blk} {p : Place} (hb : h id = some b) (hp : c.ρ id = some p) (hpm : p.m = false) (hn : c.ρ n = none) {off len : Nat} {ys : List (List V)} {news : List Value}
    (hfull : off + len = b.es.length) (hyz : ∀ e ∈ ys, e.length = b.sz) (hnl : news.length = ys.length * b.sz) (hget : ∀ i j x, get2 ys i j = some x → ∃ u, news[i * b.sz + j]? = some u ∧ VR c x u)
    (hone : ∀ u ∈ news, u.oneCell' = true) (hfit : (off + len + ys.length) * b.sz ≤ p.cap ∨ ys = []) :
    Ext c (c.onto n p (off * b.sz) (p.o + (off + len) * b.sz) news) ∧ Good E (c.onto n p (off * b.sz) (p.o + (off + len) * b.sz) news) (upd (upd h id none) n (some ⟨b.es.drop off ++ ys, b.sz, b.ty⟩)) := by
  have hin : id ≠ n := fun e => by rw [e, hn] at hp; cases hp
  have hx : Ext c (c.onto n p (off * b.sz) (p.o + (off + len) * b.sz) news) := by
    refine ⟨rfl, fun i q hq => ?_, fun _ h => h, fun k hk => D4 _ _ (fun (e : k = p.b) => hg.sep id b p hb hp (by rw [← e]; exact hk)) _ _ _, H8 _ _ (hg.own id p hp).1 _ _ _ _ (Below.refl _ _)⟩
    have : i ≠ n := fun e => by rw [e, hn] at hq; cases hq
    simp only [Cx.onto, upd_ne _ _ this, hq]
  refine ⟨hx, ?_⟩
  obtain ⟨cells, fz, q2, q3, q4, q5, q6, q7, q8⟩ := hg.cells hb hp hpm
  have hofc : off * b.sz ≤ p.cap := Nat.le_trans (Nat.mul_le_mul_right _ (by omega)) q6
  have hlive : ∀ i x, (upd (upd h id none) n (some ⟨b.es.drop off ++ ys, b.sz, b.ty⟩)) i = some x → i = n ∨ (i ≠ n ∧ i ≠ id ∧ h i = some x) := by
    intro i x hi
    by_cases h1 : i = n
    · exact .inl h1
    · rw [upd_ne _ _ h1] at hi
      by_cases h2 : i = id
      · subst h2; simp at hi
      · rw [upd_ne _ _ h2] at hi; exact .inr ⟨h1, h2, hi⟩
  have hrow : ∀ i, i < b.es.length → (i + 1) * b.sz ≤ b.es.length * b.sz := fun i hi => Nat.mul_le_mul_right _ hi
  refine ⟨fun i x hi => ?_, fun i i' x x' r r' hi hi' hr hr' he => ?_, fun k hk => ?_, fun i x r hi hr => ?_, fun i r hr => ?_, ?_, fun g cs hgc => (hg.glob g cs hgc).mono hx⟩
  · rcases hlive i x hi with rfl | ⟨h1, h2, h3⟩
    · simp only [upd_same, Option.some.injEq] at hi
      subst hi
      refine ⟨⟨p.b, p.o + off * b.sz, p.cap - off * b.sz, p.sz, false⟩, by simp [Cx.onto], fun _ => ⟨setArr cells (p.o + (off + len) * b.sz) news, fz, q2, I9 _ _ _ _ _ _ _ q3, q4.imp (fun hz => hz) (fun hz => ⟨by simp only; omega, hz.2⟩), by rw [H3]; simp only; omega, ?_, ?_, ?_⟩, fun h => by simp at h⟩
      · simp only [List.length_append, List.length_drop]
        have e1 : (b.es.length - off + ys.length) * b.sz + off * b.sz = (off + len + ys.length) * b.sz := by rw [← Nat.add_mul]; congr 1; omega
        rcases hfit with hfit | rfl
        · omega
        · simp only [List.length_nil, Nat.add_zero] at e1 ⊢
          rw [hfull] at e1; omega
      · intro e he
        rcases List.mem_append.1 he with h9 | h9
        · exact q7 e (List.mem_of_mem_drop h9)
        · exact hyz e h9
      · intro i' j y hy
        show ∃ v, (setArr cells (p.o + (off + len) * b.sz) news)[p.o + off * b.sz + i' * b.sz + j]? = some v ∧ _
        have hdl : (b.es.drop off).length = len := by simp; omega
        by_cases hil : i' < len
        · have hy2 : get2 b.es (off + i') j = some y := by
            unfold get2 at hy ⊢
            rw [List.getElem?_append_left (by omega), List.getElem?_drop] at hy
            exact hy
          obtain ⟨v, g1, g2, g3⟩ := q8 _ _ _ hy2
          have hj : j < b.sz := by
            unfold get2 at hy2
            cases hes : b.es[off + i']? with
            | none => simp [hes] at hy2
            | some e =>
              simp only [hes, Option.bind_some] at hy2
              have := (List.getElem?_eq_some_iff.1 hy2).1
              rw [q7 e (List.mem_of_getElem? hes)] at this; exact this
          refine ⟨v, ?_, g2.mono hx, g3⟩
          have e1 : p.o + off * b.sz + i' * b.sz + j = p.o + (off + i') * b.sz + j := by rw [Nat.add_mul]; omega
          have e2 : (off + i' + 1) * b.sz ≤ (off + len) * b.sz := Nat.mul_le_mul_right _ (by omega)
          rw [Nat.succ_mul] at e2
          rw [e1, D5 _ _ _ _ (by omega), g1]
        · have hy2 : get2 ys (i' - len) j = some y := by
            unfold get2 at hy ⊢
            rw [List.getElem?_append_right (by omega), hdl] at hy
            exact hy
          obtain ⟨u, g1, g2⟩ := hget _ _ _ hy2
          have hlt : (i' - len) * b.sz + j < news.length := (List.getElem?_eq_some_iff.1 g1).1
          refine ⟨u, ?_, g2.mono hx, hone u (List.mem_of_getElem? g1)⟩
          have e1 : p.o + off * b.sz + i' * b.sz + j = p.o + (off + len) * b.sz + ((i' - len) * b.sz + j) := by
            have : i' * b.sz = len * b.sz + (i' - len) * b.sz := by rw [← Nat.add_mul]; congr 1; omega
            rw [Nat.add_mul]; omega
          rw [e1]
          refine E9 news cells _ _ u ?_ g1
          rw [hnl]
          rcases hfit with hfit | rfl
          · rw [Nat.add_mul] at hfit; omega
          · simp at hnl; simp [hnl] at hlt
    · obtain ⟨r, g1, g2, g3⟩ := hg.blk i x h3
      have this : r.b ≠ p.b := fun e => h2 (hg.inj i id x b r p h3 hb g1 hp e)
      have hk : (c.onto n p (off * b.sz) (p.o + (off + len) * b.sz) news).w.heap[r.b]? = c.w.heap[r.b]? := D4 _ _ this _ _ _
      exact ⟨r, hx.rho _ _ g1, fun hm => (g2 hm).mono hx hk, fun hm => (g3 hm).mono hx hk⟩
  · have key : ∀ i x r, (upd (upd h id none) n (some ⟨b.es.drop off ++ ys, b.sz, b.ty⟩)) i = some x → (c.onto n p (off * b.sz) (p.o + (off + len) * b.sz) news).ρ i = some r →
        (i = n ∧ r.b = p.b) ∨ (i ≠ n ∧ i ≠ id ∧ h i = some x ∧ c.ρ i = some r) := by
      intro i x r hi hr
      rcases hlive i x hi with rfl | ⟨h1, h2, h3⟩
      · simp only [Cx.onto, upd_same, Option.some.injEq] at hr
        subst hr; exact .inl ⟨rfl, rfl⟩
      · simp only [Cx.onto, upd_ne _ _ h1] at hr
        exact .inr ⟨h1, h2, h3, hr⟩
    rcases key i x r hi hr with ⟨rfl, h1⟩ | ⟨h1, h2, h3, h4⟩ <;> rcases key i' x' r' hi' hr' with ⟨rfl, k1⟩ | ⟨k1, k2, k3, k4⟩
    · rfl
    · exact absurd (hg.inj i' id x' b r' p k3 hb k4 hp (by rw [← he, h1])) k2
    · exact absurd (hg.inj i id x b r p h3 hb h4 hp (by rw [he, k1])) h2
    · exact hg.inj i i' x x' r r' h3 k3 h4 k4 he
  · simp only [Cx.onto, C9]; exact hg.imm k hk
  · rcases hlive i x hi with rfl | ⟨h1, h2, h3⟩
    · simp only [Cx.onto, upd_same, Option.some.injEq] at hr
      subst hr
      exact hg.sep id b p hb hp
    · simp only [Cx.onto, upd_ne _ _ h1] at hr
      exact hg.sep i x r h3 hr
  · simp only [Cx.onto, C9]
    by_cases h1 : i = n
    · subst h1
      simp only [Cx.onto, upd_same, Option.some.injEq] at hr
      subst hr
      exact hg.own id p hp
    · simp only [Cx.onto, upd_ne _ _ h1] at hr
      exact hg.own i r hr
  · simp only [Cx.onto, C9]; exact hg.base
theorem Z6 {ty tx e : TypeId} {x y : Operand} {sz by' id off len : Nat} {b : Blk} {ys : List (List V)} (ho : o.op = .call { callee := .builtin .append, args := #[x, y], argTypes := #[ty, tx] })
    (hx : E.eval t x = .view id off len) (hb : h id = some b) (hbz : b.sz = sz) (hbt : b.ty = e) (hfull : off + len = b.es.length) (hs : elemP E.P ty = some (e, sz, by')) (htx : srcP E.P tx = true) (h0 : sz ≠ 0)
    (hy : srcV h (E.eval t y) = some ys) (hyz : ∀ c ∈ ys, c.length = sz) (hbd : (len + ys.length) * by' ≤ 140737488355328) (hl : len + ys.length ≤ 9223372036854775807) :
    OpOK E o t h n (id :: srcIds (E.eval t y)) false (.view n 0 (len + ys.length)) [(id, none), (n, some ⟨b.es.drop off ++ ys, sz, e⟩)] (n + 1) := by
  intro c a h2 K Q hd hx' hg hrd _ hf hK
  have g1 := hx' x (by simp [ho, Op.operands, Call.operands])
  rw [hx] at g1
  have g2 := hx' y (by simp [ho, Op.operands, Call.operands])
  obtain ⟨i, z, hu, hi, hz, rfl, rfl, hzz⟩ := O8 hs
  obtain ⟨d, htu, hdi⟩ := srcP_spec htx
  have hb2 : h2 id = some b := by rw [hrd id (by simp)]; exact hb
  obtain ⟨news, hsrc⟩ := src_ok hg g2 (by rw [O7 (fun id hid => hrd id (by simp [hid]))]; exact hy) h0 hyz
  have hn : c.ρ n = none := hf n (Nat.le_refl _) (by omega)
  have hold : srcV h2 (.view id off len) = some (b.es.drop off) := by
    simp only [srcV, hb2]
    rw [if_pos (by omega), List.take_of_length_le (by simp; omega)]
  have g1' := g1
  have hpb : ∃ p, c.ρ id = some p ∧ p.m = false := by
    generalize a.eval x = w at g1'
    cases g1' with
    | view _ _ _ p _ _ hp _ _ hm => exact ⟨p, hp, hm⟩
  obtain ⟨pb, q1, hpm⟩ := hpb
  obtain ⟨cells, fz, q2, q3, q4, q5, q6, q7, q8⟩ := hg.cells hb2 q1 hpm
  have hdz : ∀ e ∈ b.es.drop off, e.length = i.size := fun e he => by rw [q7 e (List.mem_of_mem_drop he), hbz]
  obtain ⟨olds, hos⟩ := src_ok hg g1 hold h0 hdz
  have hdl : (b.es.drop off).length = len := by simp; omega
  generalize hw : a.eval x = w at g1 hos
  cases g1 with
  | view _ _ _ p o' cap hp hof hlc =>
    rw [hp] at q1; obtain rfl := Option.some.inj q1
    by_cases hroom : len + ys.length ≤ cap
    · have hthere : c.w.there p.b (o' + len * i.size) news.length := by
        intro k hk
        rw [hsrc.size] at hk
        have hcap : ¬ cap = 0 := fun e => by
          have : ys.length = 0 := by omega
          rw [this] at hk; simp at hk
        obtain ⟨e1, e2⟩ := hof.resolve_left hcap
        rw [q2, hbz] at e1 e2
        have hle : (len + ys.length) * i.size ≤ cap * i.size := Nat.mul_le_mul_right _ hroom
        rw [Nat.add_mul] at hle
        refine ⟨?_, ?_⟩
        · have : o' + len * i.size + k < cells.size := by omega
          simp [World.cell?, q3, this]
        · have : ¬ (fz.1 ≤ o' + len * i.size + k ∧ o' + len * i.size + k < fz.2) := by omega
          cases hz : (decide (fz.1 ≤ o' + len * i.size + k) && decide (o' + len * i.size + k < fz.2)) with
          | false => obtain ⟨z1, z2⟩ := fz; simpa [World.frozen?, q3] using hz
          | true =>
            simp only [Bool.and_eq_true, decide_eq_true_eq] at hz
            exact absurd hz this
      have hrun := U3 (P := E.P) (w := c.w) (ty := o.type) (sLen := len) (x := a.eval y) (news := news) hu htu hdi hi (hsrc.len _) (hsrc.first _ rfl) hroom hthere hsrc.one
      have hadd : ys ≠ [] → o' = p.o + off * i.size := fun hne => by
        have hcap : ¬ cap = 0 := fun e => by
          have : ys.length = 0 := by omega
          exact hne (List.eq_nil_of_length_eq_zero this)
        obtain ⟨e1, e2⟩ := hof.resolve_left hcap
        rw [q2, hbz] at e1; exact e1
      have hfit : (off + len + ys.length) * b.sz ≤ p.cap ∨ ys = [] := by
        by_cases hys : ys = []
        · exact .inr hys
        · left
          have hcap : ¬ cap = 0 := fun e => by
            have : ys.length = 0 := by omega
            exact hys (List.eq_nil_of_length_eq_zero this)
          obtain ⟨e1, e2⟩ := hof.resolve_left hcap
          have hle : (len + ys.length) * p.sz ≤ cap * p.sz := Nat.mul_le_mul_right _ hroom
          rw [← q2, Nat.add_assoc, Nat.add_mul]; omega
      obtain ⟨hx2, hg2⟩ := hg.onto (n := n) (ys := ys) (news := news) hb2 hp hpm hn hfull (by rw [hbz]; exact hyz) (by rw [hbz]; exact hsrc.size) (by rw [hbz]; exact hsrc.get) hsrc.one hfit
      have hworld : c.w.setCells p.b (o' + len * i.size) news = (c.onto n p (off * b.sz) (p.o + (off + len) * b.sz) news).w := by
        simp only [Cx.onto]
        by_cases hys : ys = []
        · have : news = [] := List.eq_nil_of_length_eq_zero (by rw [hsrc.size, hys]; simp)
          subst this; rfl
        · rw [hadd hys, hbz, Nat.add_mul]; congr 1; omega
      have hex : (execOp a.eval o).run E.P c.w = .ok (.value (.slice (some ⟨p.b, o', none⟩) (len + ys.length) cap)) (c.onto n p (off * b.sz) (p.o + (off + len) * b.sz) news).w := by
        rw [← hworld]
        simp [execOp, ho, hw, resolve, invoke, builtin, hrun]
      unfold Oper.wp
      rw [hex, Oper.upon_value]
      refine hK _ _ hx2 ?_ (fun id' hid' => ?_) ?_
      · have e1 : app [(id, none), (n, some ⟨b.es.drop off ++ ys, i.size, e⟩)] h2 = upd (upd h2 id none) n (some ⟨b.es.drop off ++ ys, b.sz, b.ty⟩) := by
          rw [hbz, hbt]; rfl
        rw [e1]; exact hg2
      · by_cases h9 : id' = n
        · exact .inr (by omega)
        · simp only [Cx.onto, upd_ne _ _ h9] at hid'; exact .inl hid'
      · refine .view n 0 _ ⟨p.b, p.o + off * b.sz, p.cap - off * b.sz, p.sz, false⟩ o' cap (by simp [Cx.onto]) ?_ hroom
        rcases hof with h9 | ⟨e1, e2⟩
        · exact .inl h9
        · refine .inr ⟨by simp only [Nat.zero_mul, Nat.add_zero]; rw [e1, q2], ?_⟩
          simp only [Nat.zero_mul, Nat.zero_add]
          rw [← q2]; omega
    · have hxd : Ext c { c with w := c.w.drew } := Ext.same c j4
      have hgd := hg.drew
      have hfo : (Builtin.firstCells i.size len (.slice (some ⟨p.b, o', none⟩) len cap)).run E.P c.w.drew = .ok olds.toArray c.w.drew := by
        have := hos.first c.w.drew rfl
        rw [hdl] at this; exact this
      have hrun := J3 (P := E.P) (w := c.w) (ty := o.type) (base := some ⟨p.b, o', none⟩) (sLen := len) (sCap := cap) (x := a.eval y) (olds := olds) (news := news) hu htu hdi hi hz (hsrc.len _) hfo (hsrc.first _ rfl)
        (by omega) (by omega) (growslice_fits (by omega) hbd)
      have hge := grownCap_ge c.w (len + ys.length) cap e
      generalize hcap : grownCap c.w (len + ys.length) cap e = ncap at hrun hge
      have hex : (execOp a.eval o).run E.P c.w = .ok (.value (.slice (some ⟨c.w.heap.size, 0, none⟩) (len + ys.length) ncap)) (({ c with w := c.w.drew } : Cx).new n ((olds ++ news).toArray ++ Builtin.zeroCells z.cells (ncap - (len + ys.length))) e i.size).w := by
        have hrun' := hrun
        simp only [execOp, ho, resolve, invoke, builtin, List.map_toArray, List.map_cons, List.map_nil, hw, Sem.run_bind, Sem.run_pure, Result.andThen_ok, hrun', Cx.new]
      unfold Oper.wp
      rw [hex, Oper.upon_value]
      have hrows := Z5 (c := c) (xs := b.es.drop off) (ys := ys) (olds := olds) (news := news) (rest := Builtin.zeroCells z.cells (ncap - (len + ys.length))) (sz := i.size) hos.size hsrc.size hdz hyz hos.get hsrc.get
      have hsize : ((olds ++ news).toArray ++ Builtin.zeroCells z.cells (ncap - (len + ys.length))).size = ncap * i.size := by
        simp only [Array.size_append, List.size_toArray, List.length_append, size_zeroCells, hsrc.size, hos.size, hzz, hdl]
        rw [← Nat.add_mul, ← Nat.add_mul]; congr 1; omega
      have hx2 := Cx.new_ext hgd (n := n) hn ((olds ++ news).toArray ++ Builtin.zeroCells z.cells (ncap - (len + ys.length))) e i.size
      have hg3 := Good.new (es := b.es.drop off ++ ys) hgd hn ((olds ++ news).toArray ++ Builtin.zeroCells z.cells (ncap - (len + ys.length))) e i.size (by
          rw [hsize, List.length_append, hdl]; exact Nat.mul_le_mul_right _ hge) (fun e he => by
          rcases List.mem_append.1 he with h9 | h9
          · exact hdz e h9
          · exact hyz e h9) (fun i' j x hx => by
          obtain ⟨u, k1, k2⟩ := hrows i' j x hx
          refine ⟨u, k1, k2.mono (hxd.trans hx2), ?_⟩
          have hlt : i' * i.size + j < (olds ++ news).length := by
            have hil : i' < (b.es.drop off ++ ys).length := by
              unfold get2 at hx
              cases h9 : (b.es.drop off ++ ys)[i']? with
              | none => simp [h9] at hx
              | some _ => exact (List.getElem?_eq_some_iff.1 h9).1
            have hjl : j < i.size := by
              unfold get2 at hx
              cases h9 : (b.es.drop off ++ ys)[i']? with
              | none => simp [h9] at hx
              | some r =>
                simp only [h9, Option.bind_some] at hx
                have h10 := (List.getElem?_eq_some_iff.1 hx).1
                rcases List.mem_append.1 (List.mem_of_getElem? h9) with h11 | h11
                · rw [hdz r h11] at h10; exact h10
                · rw [hyz r h11] at h10; exact h10
            have : (i' + 1) * i.size ≤ (b.es.drop off ++ ys).length * i.size := Nat.mul_le_mul_right _ hil
            rw [Nat.succ_mul, List.length_append, Nat.add_mul, ← hos.size, ← hsrc.size] at this
            rw [List.length_append]; omega
          rw [Array.getElem?_append_left (by simpa using hlt)] at k1
          have hm : u ∈ olds ++ news := List.mem_of_getElem? (i := i' * i.size + j) (by simpa using k1)
          rcases List.mem_append.1 hm with h9 | h9
          · exact hos.one u h9
          · exact hsrc.one u h9)
      
      have hkill : ∀ {c' : Cx} {h' : Heap}, Good E c' h' → ∀ id, id ≠ n → Good E c' (upd (upd h' id none) n (h' n)) := by
        intro c' h' hg' id hne
        have hsub : ∀ k x, (upd (upd h' id none) n (h' n)) k = some x → h' k = some x := by
          intro k x hk
          by_cases h1 : k = n
          · subst h1; simpa using hk
          · rw [upd_ne _ _ h1] at hk
            by_cases h2 : k = id
            · subst h2; simp at hk
            · rw [upd_ne _ _ h2] at hk; exact hk
        exact ⟨fun k x hk => hg'.blk k x (hsub k x hk), fun k k' x x' r r' h1 h2 => hg'.inj k k' x x' r r' (hsub _ _ h1) (hsub _ _ h2), hg'.imm, fun k x r h1 => hg'.sep k x r (hsub _ _ h1), hg'.own, hg'.base, hg'.glob⟩
      have hin : id ≠ n := fun e => by rw [e, hn] at hp; cases hp
      refine hK _ _ (hxd.trans hx2) ?_ (new_dom _ _ _ _ _) ?_
      · have := hkill hg3 id hin
        have e1 : app [(id, none), (n, some ⟨b.es.drop off ++ ys, i.size, e⟩)] h2 = upd (upd (upd h2 n (some ⟨b.es.drop off ++ ys, i.size, e⟩)) id none) n (upd h2 n (some ⟨b.es.drop off ++ ys, i.size, e⟩) n) := by
          funext k
          simp only [app]
          by_cases h1 : k = n
          · subst h1; simp
          · rw [upd_ne _ _ h1, upd_ne _ _ h1]
            by_cases h2' : k = id
            · subst h2'; simp
            · rw [upd_ne _ _ h2', upd_ne _ _ h2', upd_ne _ _ h1]
        rw [e1]; exact this
      · have := VR.view (c := ({ c with w := c.w.drew } : Cx).new n ((olds ++ news).toArray ++ Builtin.zeroCells z.cells (ncap - (len + ys.length))) e i.size) n 0 (len + ys.length) ⟨c.w.heap.size, 0, _, i.size, false⟩ 0 ncap (by simp [Cx.new]; rfl) (.inr ⟨by simp, ?_⟩) hge
        · simpa using this
        · simp only [Nat.zero_mul, Nat.zero_add]
          rw [← hsize]; simp
end ops
end Go.V
namespace Go.V
open Go.RowKit (Below)
set_option linter.unusedSimpArgs false
set_option linter.unusedVariables false
def Cx.newW (c : Cx) (n : Nat) (w' : World) (k sz : Nat) : Cx := { c with ρ := upd c.ρ n (some ⟨c.w.heap.size, 0, k, sz, false⟩), w := w' }
theorem Good.newW {E : Env} {c : Cx} {h : Heap} (hg : Good E c h) {n : Nat} (hn : c.ρ n = none) {w' : World} {cells : Array Value} {ty : TypeId} {fz : Nat × Nat} {sz : Nat} {es : List (List V)}
    (hw1 : ∀ k, k < c.w.heap.size → w'.heap[k]? = c.w.heap[k]?) (hw2 : w'.heap[c.w.heap.size]? = some (.cells cells ty fz)) (hw3 : w'.heap.size = c.w.heap.size + 1)
    (hw4 : w'.os = c.w.os ∧ w'.tape = c.w.tape ∧ w'.output = c.w.output) (hfz : fz.1 = fz.2 ∨ (cells.size ≤ fz.1 ∧ sz = 1))
    (hlen : es.length * sz ≤ cells.size) (hsz : ∀ e ∈ es, e.length = sz) (hv : ∀ i j x, get2 es i j = some x → ∃ v, cells[i * sz + j]? = some v ∧ VR c x v ∧ v.oneCell' = true) :
    Ext c (c.newW n w' cells.size sz) ∧ Good E (c.newW n w' cells.size sz) (upd h n (some ⟨es, sz, ty⟩)) := by
  have hx : Ext c (c.newW n w' cells.size sz) := by
    refine ⟨rfl, fun id p hp => ?_, fun b hb => hb, fun b hb => hw1 b (hg.imm b hb), ⟨hw4.1, hw4.2.1, hw4.2.2, by simp only [Cx.newW, hw3]; omega, fun k hk => hw1 k (by have := hg.base; omega)⟩⟩
    have : id ≠ n := fun e => by rw [e, hn] at hp; cases hp
    simp only [Cx.newW, upd_ne _ _ this, hp]
  refine ⟨hx, fun id b hb => ?_, fun id id' b b' p p' hb hb' hp hp' he => ?_, fun b hb => ?_, fun id b p hb hp => ?_, fun id p hp => ?_, ?_, fun g cs hgc => (hg.glob g cs hgc).mono hx⟩
  · by_cases hi : id = n
    · subst hi
      simp only [upd_same, Option.some.injEq] at hb
      subst hb
      exact ⟨⟨c.w.heap.size, 0, cells.size, sz, false⟩, by simp [Cx.newW], fun _ => ⟨cells, fz, rfl, hw2, by simpa using hfz, by simp, hlen, hsz, fun i j x hx' => let ⟨v, h1, h2, h3⟩ := hv i j x hx'; ⟨v, by simpa using h1, h2.mono hx, h3⟩⟩, fun h => by simp at h⟩
    · rw [upd_ne _ _ hi] at hb
      obtain ⟨p, h1, h2, h3⟩ := hg.blk id b hb
      have hk : (c.newW n w' cells.size sz).w.heap[p.b]? = c.w.heap[p.b]? := hw1 _ (hg.own id p h1).2
      exact ⟨p, hx.rho _ _ h1, fun hm => (h2 hm).mono hx hk, fun hm => (h3 hm).mono hx hk⟩
  · by_cases hi : id = n <;> by_cases hi' : id' = n
    · rw [hi, hi']
    · subst hi
      simp only [Cx.newW, upd_same, Option.some.injEq] at hp
      simp only [Cx.newW, upd_ne _ _ hi'] at hp'
      have := (hg.own id' p' hp').2
      rw [← he, ← hp] at this; simp at this
    · subst hi'
      simp only [Cx.newW, upd_same, Option.some.injEq] at hp'
      simp only [Cx.newW, upd_ne _ _ hi] at hp
      have := (hg.own id p hp).2
      rw [he, ← hp'] at this; simp at this
    · rw [upd_ne _ _ hi] at hb
      rw [upd_ne _ _ hi'] at hb'
      simp only [Cx.newW, upd_ne _ _ hi] at hp
      simp only [Cx.newW, upd_ne _ _ hi'] at hp'
      exact hg.inj id id' b b' p p' hb hb' hp hp' he
  · have := hg.imm b hb
    simp only [Cx.newW, hw3]; omega
  · by_cases hi : id = n
    · subst hi
      simp only [Cx.newW, upd_same, Option.some.injEq] at hp
      intro hI
      have := hg.imm _ hI
      rw [← hp] at this; simp at this
    · rw [upd_ne _ _ hi] at hb
      simp only [Cx.newW, upd_ne _ _ hi] at hp
      exact hg.sep id b p hb hp
  · have hb := hg.base
    by_cases hi : id = n
    · subst hi
      simp only [Cx.newW, upd_same, Option.some.injEq] at hp
      subst hp
      simp only [Cx.newW, hw3]
      omega
    · simp only [Cx.newW, upd_ne _ _ hi] at hp
      have := hg.own id p hp
      simp only [Cx.newW, hw3]; omega
  · have hb := hg.base
    simp only [Cx.newW, hw3]; omega
theorem newW_dom (c : Cx) (n : Nat) (w' : World) (k sz : Nat) (id : Nat) (h : (c.newW n w' k sz).ρ id ≠ none) : c.ρ id ≠ none ∨ (n ≤ id ∧ id < n + 1) := by
  by_cases hi : id = n
  · exact .inr (by omega)
  · simp only [Cx.newW, upd_ne _ _ hi] at h; exact .inl h
section ops
variable {E : Env} {o : Oper} {t : Nat → V} {h : Heap} {n : Nat}
theorem op_bytes {sr ds : TypeId} {x : Operand} {s : ByteArray} {e : TypeId} (ho : o.op = .convert sr ds x) (hx : E.eval t x = .str s) (hsr : (E.P.underlying sr).isSome = true) (hds : E.P.underlying ds = some (.slice e)) (he : E.P.underlying e = some (.int .u8)) :
    OpOK E o t h n [] false (.view n 0 s.size) [(n, some ⟨s.data.toList.map fun b => [.int .u8 b.toNat], 1, e⟩)] (n + 1) := by
  intro c a h2 K Q hd hx' hg hrd _ hf hK
  have g1 := (by have := hx' x (by simp [ho, Op.operands]); rw [hx] at this; exact this.str_inv)
  have hn : c.ρ n = none := hf n (Nat.le_refl _) (by omega)
  obtain ⟨ds', hds'⟩ := Option.isSome_iff_exists.mp hsr
  have hrun := Lib.run_convert_string_bytes (P := E.P) c.w sr ds e s hds' hds he
  have hge := grownCap_ge c.w s.size 0 e
  have hcs : (Lib.bytesCells c.w e s).size = grownCap c.w s.size 0 e := by
    simp [Lib.bytesCells]; have : s.data.size = s.size := rfl
    omega
  have hsl : s.data.toList.length = s.size := by simp
  obtain ⟨hx2, hg2⟩ := hg.newW (n := n) (w' := Lib.bytesWorld c.w e s) (cells := Lib.bytesCells c.w e s) (ty := e) (sz := 1) (es := s.data.toList.map fun b => [.int .u8 b.toNat]) hn
    (fun k hk => Lib.bytesWorld_at_old c.w e s k hk) (Lib.bytesWorld_at_new c.w e s) (Lib.bytesWorld_size c.w e s) (by simp [Lib.bytesWorld, World.freeze]; exact ⟨rfl, rfl⟩) (.inr ⟨Nat.le_refl _, rfl⟩)
    (by rw [hcs, List.length_map, hsl]; omega) (by intro e he; obtain ⟨b, _, rfl⟩ := List.mem_map.1 he; rfl) (fun i j y hy => by
      unfold get2 at hy
      rw [List.getElem?_map] at hy
      cases hb : s.data.toList[i]? with
      | none => simp [hb] at hy
      | some b =>
        simp only [hb, Option.map_some, Option.bind_some] at hy
        cases j with
        | zero =>
          simp only [List.getElem?_cons_zero, Option.some.injEq] at hy
          subst hy
          refine ⟨.int .u8 b.toNat, ?_, .int _ _, rfl⟩
          have hlt : i < s.data.size := by have := (List.getElem?_eq_some_iff.1 hb).1; simpa using this
          rw [Nat.mul_one, Nat.add_zero, Lib.bytesCells, Array.getElem?_append_left (by simpa using hlt), Array.getElem?_map]
          have : s.data[i]? = some b := by simpa using hb
          rw [this]; rfl
        | succ j => simp at hy)
  unfold Oper.wp
  have hex : (execOp a.eval o).run E.P c.w = .ok (.value (.slice (some ⟨c.w.heap.size, 0, none⟩) s.size (grownCap c.w s.size 0 e))) (Lib.bytesWorld c.w e s) := by
    simp [execOp, ho, g1, hrun]
  rw [hex, Oper.upon_value]
  refine hK _ _ hx2 hg2 (newW_dom _ _ _ _ _) ?_
  have := VR.view (c := c.newW n (Lib.bytesWorld c.w e s) (Lib.bytesCells c.w e s).size 1) n 0 s.size ⟨c.w.heap.size, 0, (Lib.bytesCells c.w e s).size, 1, false⟩ 0 (grownCap c.w s.size 0 e) (by simp [Cx.newW]) (.inr ⟨by simp, by simp [hcs]⟩) hge
  exact this
def bytesOf : List (List V) → Option (List Int)
  | [] => some []
  | [.int .u8 b] :: r => (bytesOf r).map (b :: ·)
  | _ => none
def bytesOfT : List (List T) → Option (List Int)
  | [] => some []
  | [.int .u8 b] :: r => (bytesOfT r).map (b :: ·)
  | _ => none
def strOw (bs : List Int) : ByteArray := ⟨(bs.map fun b => UInt8.ofNat b.toNat).toArray⟩
theorem foldl_push (ns : List Int) : ∀ (s : ByteArray), ns.foldl (fun r n => r.push (UInt8.ofNat n.toNat)) s = ⟨s.data ++ (ns.map fun n => UInt8.ofNat n.toNat).toArray⟩ := by
  induction ns with
  | nil => intro s; simp
  | cons n ns ih =>
    intro s
    simp only [List.foldl_cons, ih]
    simp [ByteArray.push]
theorem op_string {sr ds e : TypeId} {x : Operand} {ys : List (List V)} {bs : List Int} (ho : o.op = .convert sr ds x) (hsr : E.P.underlying sr = some (.slice e)) (he : E.P.underlying e = some (.int .u8)) (hds : E.P.underlying ds = some .string)
    (hy : srcV h (E.eval t x) = some ys) (hns : ∀ s, E.eval t x ≠ .str s) (hb : ys = bs.map fun b => [.int .u8 b]) : OpOK E o t h n (srcIds (E.eval t x)) false (.str (strOw bs)) [] n :=
  OpOK.value fun c a h2 hx' hg hrd => by
    have g1 := hx' x (by simp [ho, Op.operands])
    obtain ⟨news, hsrc⟩ := src_ok (sz := 1) hg g1 (by rw [O7 hrd]; exact hy) (by omega) (by subst hb; intro e he; obtain ⟨b, _, rfl⟩ := List.mem_map.1 he; rfl)
    refine ⟨.string (strOw bs), ?_, .str _⟩
    have hnews : news = bs.map (Value.int .u8) := by
      have hl : news.length = bs.length := by rw [hsrc.size, hb]; simp
      refine List.ext_getElem? fun k => ?_
      by_cases hk : k < bs.length
      · obtain ⟨u, h1, h2⟩ := hsrc.get k 0 (.int .u8 bs[k]) (by simp [get2, hb, hk])
        rw [Nat.mul_one, Nat.add_zero] at h1
        rw [h1, h2.int_inv]
        simp [hk]
      · rw [List.getElem?_eq_none (by omega), List.getElem?_eq_none (by simp; omega)]
    have hyl : ys.length = bs.length := by rw [hb]; simp
    have hlen := hsrc.len c.w
    have hfirst := hsrc.first c.w rfl
    generalize hw : a.eval x = w at g1 hlen hfirst
    have hsl : ∃ A l k, w = .slice A l k := by
      clear hsrc hrd
      revert hy hns g1
      generalize E.eval t x = q
      intro hy hns g1
      cases g1 with
      | str s => exact absurd rfl (hns s)
      | nsl => exact ⟨_, _, _, rfl⟩
      | view => exact ⟨_, _, _, rfl⟩
      | sl fr nn es v hv => cases hv; exact ⟨_, _, _, rfl⟩
      | _ => simp [srcV] at hy
    obtain ⟨A, l, k, rfl⟩ := hsl
    have hll : l = ys.length := by
      simp only [Builtin.lenOf, Sem.run_pure, Result.ok.injEq] at hlen; exact hlen.1
    have hconv : (convert sr ds (.slice A l k)).run E.P c.w = .ok (.string (strOw bs)) c.w := by
      rw [run_convert_bytes_string c.w sr ds e A l k hsr he hds]
      cases A with
      | none =>
        have h0 : (Builtin.firstCells 1 ys.length (.slice none l k)).run E.P c.w = .ok #[] c.w := by simp [Builtin.firstCells]
        rw [h0] at hfirst
        simp only [Result.ok.injEq, and_true] at hfirst
        have hn0 : news = [] := by simpa using hfirst.symm
        have hbs : bs = [] := by
          have : news.length = bs.length := by rw [hnews]; simp
          rw [hn0] at this
          exact List.eq_nil_of_length_eq_zero (by simpa using this.symm)
        subst hbs
        simp [Conv.bytesToString, strOw]
        rfl
      | some A =>
        have hl : (loadCells A l).run E.P c.w = .ok (bs.map (Value.int .u8)).toArray c.w := by
          simp only [Builtin.firstCells, Nat.mul_one] at hfirst
          rw [hll, hfirst, hnews]
        rw [run_bytesToString c.w A l k bs hl, foldl_push]
        simp [strOw]
    simp [execOp, ho, hw, hconv]
theorem op_make {ty e : TypeId} {x y : Operand} {k k' : IntKind} {m : Nat} {sz by' : Nat} {zs : List V} (ho : o.op = .makeSlice ty x y) (hx : E.eval t x = .int k m) (hy : E.eval t y = .int k' m)
    (hs : elemP E.P ty = some (e, sz, by')) (hz : zeroV E.P e = some zs) (hc : zs.all V.cell = true) (h0 : sz ≠ 0) (hb : by' * m ≤ 281474976710656) (hl : m ≤ 9223372036854775807) :
    OpOK E o t h n [] false (.view n 0 m) [(n, some ⟨List.replicate m zs, sz, e⟩)] (n + 1) := by
  obtain ⟨i, z, hu, hi, hz', rfl, rfl, hzz⟩ := O8 hs
  obtain ⟨z2, hzr, hzv⟩ := N0 hz
  have hz2 : z2.cells.size = i.size ∧ z2 = z := by
    have h1 := hzr default
    simp only [zeroValue, typeInfo, Sem.run_bind, run_program, Result.andThen_ok, hi, Sem.run_pure, hz'] at h1
    have : z = z2 := by simpa using h1
    subst this; exact ⟨hzz, rfl⟩
  obtain ⟨hzs2, rfl⟩ := hz2
  have hzl : zs.length = i.size := by rw [hzv]; simp [hzs2]
  refine OpOK.makes (fun e he => by rw [List.eq_of_mem_replicate he]; exact hzl) fun c a h2 hx' hg => ?_
  have g1 := (by have := hx' x (by simp [ho, Op.operands]); rw [hx] at this; exact this.int_inv)
  have g2 := (by have := hx' y (by simp [ho, Op.operands]); rw [hy] at this; exact this.int_inv)
  have hb' : (i.bytes : Int) * (m : Int) ≤ 281474976710656 := by
    have h : ((i.bytes * m : Nat) : Int) ≤ 281474976710656 := by omega
    rwa [Int.natCast_mul] at h
  have hrun := run_make (P := E.P) c.w ty e i z2 hu hi hz' k k' m m (by omega) (Int.le_refl _) hb' (by omega)
  simp only [Int.toNat_natCast] at hrun
  refine ⟨madeCells z2.cells (m * i.size), .slice (some ⟨c.w.heap.size, 0, none⟩) m m, by simp [execOp, ho, g1, g2, hrun], by simp [size_madeCells], fun r j y hg2 => ?_, fun c' hc' => ?_⟩
  · unfold get2 at hg2
    cases hk : (List.replicate m zs)[r]? with
    | none => simp [hk] at hg2
    | some q =>
      have hq := List.eq_of_mem_replicate (List.mem_of_getElem? hk)
      have hkm : r < m := by have := (List.getElem?_eq_some_iff.1 hk).1; simpa using this
      subst hq
      simp only [hk, Option.bind_some] at hg2
      have hj : j < i.size := by rw [← hzl]; exact (List.getElem?_eq_some_iff.1 hg2).1
      have hlt : r * i.size + j < m * i.size := by
        have : (r + 1) * i.size ≤ m * i.size := Nat.mul_le_mul_right _ hkm
        rw [Nat.succ_mul] at this; omega
      have hmod : (r * i.size + j) % z2.cells.size = j := by
        rw [hzs2, Nat.mul_comm, Nat.mul_add_mod, Nat.mod_eq_of_lt hj]
      have hjz : j < z2.cells.size := by omega
      refine ⟨z2.cells[j], ?_, ?_⟩
      · simp [madeCells, hlt, hmod, hjz]
      · have hyv : y = V.ofConst z2.cells[j] := by
          subst hzv
          simp only [List.getElem?_map, Array.getElem?_toList] at hg2
          rw [Array.getElem?_eq_getElem hjz] at hg2
          simpa using hg2.symm
        have hvr : VR c y z2.cells[j] := by rw [hyv]; exact G7 c _
        exact ⟨hvr, hvr.oneCell ((List.all_eq_true.1 hc) y (List.mem_of_getElem? hg2))⟩
  · have := VR.view (c := c') n 0 m _ 0 m hc' (.inr ⟨by simp, by simp [size_madeCells]⟩) (Nat.le_refl _)
    simpa using this
end ops
end Go.V
