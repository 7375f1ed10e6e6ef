/- A logic over abstract states: structs and slices that are written out; append; make. No conditions. -/
import Derived.Test.YtknnniaoboaghaaVf
import Derived.Laws.AppendOwn
import Derived.Laws.MakeOwn
namespace Go.V
open Go.RowKit (Below)
set_option linter.unusedSimpArgs false
set_option linter.unusedVariables false

/-- Cells that stand for abstract ones. -/
structure CellsOK (c : Cx) (vs : Array Value) (cs : List V) : Prop where
  size : vs.size = cs.length
  get : ∀ (k : Nat) (x : V) (v : Value), cs[k]? = some x → vs[k]? = some v → VR c x v

theorem CellsOK.mono {c c' : Cx} {vs : Array Value} {cs : List V} (h : CellsOK c vs cs) (e : Ext c c') : CellsOK c' vs cs := ⟨h.size, fun k x v h1 h2 => (h.get k x v h1 h2).mono e⟩

theorem foldl_zipIdx (off : Nat) : ∀ (l : List Value) (m : Nat) (cells : Array Value), (l.zipIdx m).foldl (fun cs (c, j) => cs.setIfInBounds (off + j) c) cells = setArr cells (off + m) l
  | [], _, _ => rfl
  | v :: r, m, cells => by
    rw [List.zipIdx_cons, List.foldl_cons, foldl_zipIdx off r (m + 1), setArr]
    rfl

theorem CellsOK.blit {c : Cx} {vs : Array Value} {cs : List V} (h : CellsOK c vs cs) {us : Array Value} {xs : List V} (hx : CellsOK c us xs) {off : Nat} (hl : off + xs.length ≤ cs.length) :
    CellsOK c (us.zipIdx.foldl (fun cs (c, j) => cs.setIfInBounds (off + j) c) vs) (splice cs off xs) := by
  have e : us.zipIdx.foldl (fun cs (c, j) => cs.setIfInBounds (off + j) c) vs = setArr vs off us.toList := by
    rw [← Array.foldl_toList, Array.toList_zipIdx]
    exact foldl_zipIdx off us.toList 0 vs
  rw [e]
  refine ⟨by rw [size_setArr, length_splice _ _ _ hl, h.size], fun k x v h1 h2 => ?_⟩
  rw [get_splice _ _ _ hl] at h1
  have hus : us.toList.length = xs.length := by simpa using hx.size
  split at h1
  · rename_i hk
    have hlt : k - off < us.size := by rw [hx.size]; omega
    have := get_setArr_in us.toList vs off (k - off) us[k - off] (by rw [hus, h.size]; exact hl) (by simp [hlt])
    rw [show off + (k - off) = k from by omega, h2] at this
    exact hx.get (k - off) x v h1 (by simpa [hlt] using this.symm)
  · rename_i hk
    rw [get_setArr_out _ _ _ _ (by rw [hus]; omega)] at h2
    exact h.get k x v h1 h2

def fillV (place : Nat → Option (Nat × Nat)) (cs : List V) : List (Nat × V) → Option (List V)
  | [] => some cs
  | (i, v) :: r => match place i with
    | some (off, size) => if v.known && v.cells.length == size && decide (off + size ≤ cs.length) then fillV place (splice cs off v.cells) r else none
    | none => none

theorem fill_ok {c : Cx} {place : Nat → Option (Nat × Nat)} : ∀ (ps : List (Nat × V)) (qs : List (Nat × Value)) (cs cs' : List V) (vs : Array Value),
    CellsOK c vs cs → ps.length = qs.length → (∀ (k : Nat) (p : Nat × V) (q : Nat × Value), ps[k]? = some p → qs[k]? = some q → p.1 = q.1 ∧ VR c p.2 q.2) → fillV place cs ps = some cs' →
    ∃ vs', Instr.fill place vs qs = some vs' ∧ CellsOK c vs' cs'
  | [], [], cs, cs', vs, h, _, _, hf => by simp only [fillV, Option.some.injEq] at hf; subst hf; exact ⟨vs, rfl, h⟩
  | [], q :: qs, _, _, _, _, hl, _, _ => by simp at hl
  | p :: ps, [], _, _, _, _, hl, _, _ => by simp at hl
  | (i, x) :: ps, (i', v) :: qs, cs, cs', vs, h, hl, hr, hf => by
    have h0 := hr 0 (i, x) (i', v) rfl rfl
    obtain ⟨rfl, hv⟩ := h0
    have hv : VR c x v := hv
    simp only [fillV] at hf
    cases hp : place i with
    | none => simp [hp] at hf
    | some os =>
      obtain ⟨off, size⟩ := os
      simp only [hp] at hf
      split at hf
      · rename_i hc
        simp only [Bool.and_eq_true, beq_iff_eq, decide_eq_true_eq] at hc
        obtain ⟨⟨hk, hz⟩, hle⟩ := hc
        have hcell := hv.cells hk
        have hb := h.blit (us := v.cells) (xs := x.cells) ⟨hcell.1, hcell.2⟩ (off := off) (by omega)
        obtain ⟨vs', h1, h2⟩ := fill_ok ps qs _ cs' _ hb (by simpa using hl) (fun k p q hp hq => hr (k + 1) p q (by simpa using hp) (by simpa using hq)) hf
        refine ⟨vs', ?_, h2⟩
        have hnot : ¬ ((v.cells.size ≠ size || off + v.cells.size > vs.size) = true) := by
          have e1 := hcell.1
          have e2 := h.size
          simp only [ne_eq, decide_not, gt_iff_lt, Bool.or_eq_true, Bool.not_eq_eq_eq_not, Bool.not_true, decide_eq_false_iff_not, decide_eq_true_eq, not_or, Decidable.not_not]
          omega
        simp only [Instr.fill, hp, if_neg hnot]
        exact h1
      · cases hf

/-- Where a struct's fields lie. -/
def placesP (P : Program) (fs : Array Field) : Option (List (Nat × Nat)) := fs.toList.mapM fun f => (P.info? f.type).map fun i => (f.offset, i.size)

theorem run_places {P : Program} {w : World} : ∀ (fs : List Field) (ps : List (Nat × Nat)), (fs.mapM fun f => (P.info? f.type).map fun i => (f.offset, i.size)) = some ps →
    ((fs.mapM fun f => (do pure (f.offset, ← sizeOf f.type) : Sem (Nat × Nat)))).run P w = .ok ps w
  | [], ps, h => by simp at h; subst h; simp
  | f :: fs, ps, h => by
    rw [List.mapM_cons] at h
    cases hi : P.info? f.type with
    | none => simp [hi] at h
    | some i =>
      simp only [hi, Option.map_some] at h
      cases hr : (fs.mapM fun f => (P.info? f.type).map fun i => (f.offset, i.size)) with
      | none => simp [hr] at h
      | some rs =>
        simp only [hr] at h
        have : ps = (f.offset, i.size) :: rs := by simpa using h.symm
        subst this
        have ih := run_places (P := P) (w := w) fs rs hr
        rw [List.mapM_cons]
        simp only [Sem.run_bind, sizeOf, typeInfo, run_program, Result.andThen_ok, hi, Sem.run_pure] at ih ⊢
        rw [ih]
        rfl

def buildV (E : Env) (t : Nat → V) (ty : TypeId) (parts : Array (Nat × Operand)) : Option (List V) :=
  match E.P.underlying ty, zeroV E.P ty with
  | some (.struct fs), some zs => match placesP E.P fs with
    | some ps => fillV (ps[·]?) zs (parts.toList.map fun q => (q.1, E.eval t q.2))
    | none => none
  | some (.array _ e), some zs => match E.P.info? e with
    | some i => fillV (fun k => some (k * i.size, i.size)) zs (parts.toList.map fun q => (q.1, E.eval t q.2))
    | none => none
  | _, _ => none

theorem mapM_arr {P : Program} {w : World} {fs : Array Field} {ps : List (Nat × Nat)} (h : placesP P fs = some ps) :
    ((fs.mapM fun f => (do pure (f.offset, ← sizeOf f.type) : Sem (Nat × Nat)))).run P w = .ok ps.toArray w := by
  rw [Array.mapM_eq_mapM_toList, Sem.run_map, run_places fs.toList ps h]
  rfl

section ops
variable {E : Env} {o : Oper} {t : Nat → V} {h : Heap} {n : Nat}

theorem parts_ok {c : Cx} {a : Act} {parts : Array (Nat × Operand)} (hx : ∀ x ∈ (parts.toList.map (·.2)).toArray, VR c (E.eval t x) (a.eval x)) :
    (parts.toList.map fun q => (q.1, E.eval t q.2)).length = (parts.map fun q => (q.1, a.eval q.2)).toList.length ∧
    ∀ (k : Nat) (p : Nat × V) (q : Nat × Value), (parts.toList.map fun q => (q.1, E.eval t q.2))[k]? = some p → (parts.map fun q => (q.1, a.eval q.2)).toList[k]? = some q → p.1 = q.1 ∧ VR c p.2 q.2 := by
  refine ⟨by simp, fun k p q hp hq => ?_⟩
  simp only [Array.toList_map, List.getElem?_map] at hp hq
  cases hk : parts.toList[k]? with
  | none => simp [hk] at hp
  | some r =>
    simp only [hk, Option.map_some, Option.some.injEq] at hp hq
    subst hp; subst hq
    refine ⟨rfl, hx r.2 ?_⟩
    simp only [List.mem_toArray, List.mem_map]
    exact ⟨r, List.mem_of_getElem? hk, rfl⟩

theorem op_build {ty : TypeId} {parts : Array (Nat × Operand)} {cs : List V} (ho : o.op = .build ty parts) (hb : buildV E t ty parts = some cs) : OpOK E o t h n [] false (.agg cs) [] n :=
  OpOK.value fun c a h2 hx' hg hrd => by
    have hp := parts_ok (E := E) (t := t) (c := c) (a := a) (parts := parts) (fun x hx => hx' x (by simpa [ho, Op.operands] using hx))
    unfold buildV at hb
    cases hu : E.P.underlying ty with
    | none => simp [hu] at hb
    | some d =>
      cases hz : zeroV E.P ty with
      | none => cases d <;> simp [hu, hz] at hb
      | some zs =>
        obtain ⟨z, hzr, hzs⟩ := zeroV_run hz
        have hzc : CellsOK c z.cells zs := by
          subst hzs
          refine ⟨by simp, fun k x v h1 h2 => ?_⟩
          simp only [List.getElem?_map, Array.getElem?_toList, h2, Option.map_some, Option.some.injEq] at h1
          subst h1
          exact ofConst_ok c v
        cases d with
        | struct fs =>
          simp only [hu, hz] at hb
          cases hps : placesP E.P fs with
          | none => simp [hps] at hb
          | some ps =>
            simp only [hps] at hb
            obtain ⟨vs, h1, h2⟩ := fill_ok _ _ zs cs z.cells hzc hp.1 hp.2 hb
            refine ⟨.agg vs, ?_, .agg _ _ h2.size.symm h2.get⟩
            have h1' : Instr.fill (fun x => ps[x]?) z.cells (parts.map fun q => (q.1, a.eval q.2)).toList = some vs := h1
            simp only [execOp, ho, Instr.build, Sem.run_bind, hzr, Result.andThen_ok, run_underlying hu, mapM_arr hps]
            simp only [List.getElem?_toArray, h1', Sem.run_pure, Result.andThen_ok]
        | array m e =>
          simp only [hu, hz] at hb
          cases hi : E.P.info? e with
          | none => simp [hi] at hb
          | some i =>
            simp only [hi] at hb
            obtain ⟨vs, h1, h2⟩ := fill_ok _ _ zs cs z.cells hzc hp.1 hp.2 hb
            refine ⟨.agg vs, ?_, .agg _ _ h2.size.symm h2.get⟩
            simp only [execOp, ho, Instr.build, Sem.run_bind, hzr, Result.andThen_ok, run_underlying hu, sizeOf, typeInfo, run_program, hi, Sem.run_pure]
            simp only [h1, Sem.run_pure, Result.andThen_ok]
        | _ => simp [hu, hz] at hb

/-! A slice that is written out. -/

/-- Its elements: zero ones, and then those that are given. -/
def litV (E : Env) (t : Nat → V) (sz : Nat) : List (List V) → List (Nat × Operand) → Option (List (List V))
  | es, [] => some es
  | es, (i, x) :: r => if (E.eval t x).known && (E.eval t x).cells.length == sz && decide (i < es.length) then litV E t sz (es.set i (E.eval t x).cells) r else none

structure RowsOK (c : Cx) (vs : Array Value) (es : List (List V)) (sz : Nat) : Prop where
  size : es.length * sz = vs.size
  each : ∀ e ∈ es, e.length = sz
  get : ∀ i j x, get2 es i j = some x → ∃ u, vs[i * sz + j]? = some u ∧ VR c x u

theorem RowsOK.set {c : Cx} {vs : Array Value} {es : List (List V)} {sz : Nat} (h : RowsOK c vs es sz) {us : Array Value} {xs : List V} (hx : CellsOK c us xs) (hz : xs.length = sz) {i : Nat} (hi : i < es.length) :
    RowsOK c (us.zipIdx.foldl (fun cs (c, j) => cs.setIfInBounds (i * sz + j) c) vs) (es.set i xs) sz := by
  have e : us.zipIdx.foldl (fun cs (c, j) => cs.setIfInBounds (i * sz + j) c) vs = setArr vs (i * sz) us.toList := by
    rw [← Array.foldl_toList, Array.toList_zipIdx]
    exact foldl_zipIdx (i * sz) us.toList 0 vs
  rw [e]
  have hus : us.toList.length = sz := by rw [← hz]; simpa using hx.size
  have hrow : i * sz + sz ≤ vs.size := by
    have : (i + 1) * sz ≤ es.length * sz := Nat.mul_le_mul_right _ hi
    rw [Nat.succ_mul, h.size] at this; exact this
  refine ⟨by rw [size_setArr]; simpa using h.size, fun e he => ?_, fun i' j x hg => ?_⟩
  · rcases List.mem_or_eq_of_mem_set he with h9 | h9
    · exact h.each e h9
    · rw [h9, hz]
  · by_cases hii : i' = i
    · subst hii
      simp only [get2, List.getElem?_set_self hi, Option.bind_some] at hg
      have hlt : j < us.size := by rw [hx.size]; exact (List.getElem?_eq_some_iff.1 hg).1
      exact ⟨us[j], get_setArr_in us.toList vs (i' * sz) j us[j] (by omega) (by simp [hlt]), hx.get j x _ hg (by simp [hlt])⟩
    · simp only [get2, List.getElem?_set_ne (Ne.symm hii)] at hg
      obtain ⟨u, h1, h2⟩ := h.get i' j x hg
      refine ⟨u, ?_, h2⟩
      have hj : j < sz := by
        cases hes : es[i']? with
        | none => simp [hes] at hg
        | some e =>
          simp only [hes, Option.bind_some] at hg
          have := (List.getElem?_eq_some_iff.1 hg).1
          rw [h.each e (List.mem_of_getElem? hes)] at this; exact this
      rw [get_setArr_out, h1]
      rcases Nat.lt_or_gt_of_ne hii with hlt | hgt
      · have : (i' + 1) * sz ≤ i * sz := Nat.mul_le_mul_right _ hlt
        rw [Nat.succ_mul] at this; omega
      · have : (i + 1) * sz ≤ i' * sz := Nat.mul_le_mul_right _ hgt
        rw [Nat.succ_mul] at this; omega

theorem lit_ok {c : Cx} {a : Act} {sz : Nat} : ∀ (ps : List (Nat × Operand)) (es es' : List (List V)) (vs : Array Value), (∀ x ∈ ps.map (·.2), VR c (E.eval t x) (a.eval x)) → RowsOK c vs es sz →
    litV E t sz es ps = some es' → ∃ vs', Instr.fill (fun i => some (i * sz, sz)) vs (ps.map fun q => (q.1, a.eval q.2)) = some vs' ∧ RowsOK c vs' es' sz
  | [], es, es', vs, _, h, hf => by simp only [litV, Option.some.injEq] at hf; subst hf; exact ⟨vs, rfl, h⟩
  | (i, x) :: ps, es, es', vs, hx, h, hf => by
    simp only [litV] at hf
    split at hf
    · rename_i hc
      simp only [Bool.and_eq_true, beq_iff_eq, decide_eq_true_eq] at hc
      obtain ⟨⟨hk, hz⟩, hle⟩ := hc
      have hv := hx x (by simp)
      have hcell := hv.cells hk
      have hs := h.set (us := (a.eval x).cells) (xs := (E.eval t x).cells) ⟨hcell.1, hcell.2⟩ hz hle
      obtain ⟨vs', h1, h2⟩ := lit_ok ps _ es' _ (fun y hy => hx y (by simp only [List.map_cons, List.mem_cons]; exact .inr hy)) hs hf
      refine ⟨vs', ?_, h2⟩
      have hrow : i * sz + sz ≤ vs.size := by
        have : (i + 1) * sz ≤ es.length * sz := Nat.mul_le_mul_right _ hle
        rw [Nat.succ_mul, h.size] at this; exact this
      have e1 := hcell.1
      have hnot : ¬ (((a.eval x).cells.size ≠ sz || i * sz + (a.eval x).cells.size > vs.size) = true) := by
        simp only [ne_eq, decide_not, gt_iff_lt, Bool.or_eq_true, Bool.not_eq_eq_eq_not, Bool.not_true, decide_eq_false_iff_not, decide_eq_true_eq, not_or, Decidable.not_not]
        omega
      simp only [List.map_cons, Instr.fill, if_neg hnot]
      exact h1
    · cases hf

theorem op_buildSlice {ty e : TypeId} {m sz : Nat} {parts : Array (Nat × Operand)} {zs : List V} {es : List (List V)} (ho : o.op = .buildSlice ty m parts) (hs : sliceP E.P ty = some (e, sz)) (hz : zeroV E.P e = some zs)
    (hzs : zs.length = sz) (h0 : sz ≠ 0) (hb : m * sz ≤ 16777216) (hl : litV E t sz (List.replicate m zs) parts.toList = some es) (hc : (es.all fun x => x.all V.cell) = true) :
    OpOK E o t h n [] false (.view n 0 m) [(n, some ⟨es, sz, e⟩)] (n + 1) := by
  obtain ⟨z, hzr, hzv⟩ := zeroV_run hz
  obtain ⟨hu, i, hi, hiz⟩ := sliceP_spec hs
  have hzsz : z.cells.size = sz := by rw [← hzs, hzv]; simp
  have main : ∀ (c : Cx) (a : Act), (∀ x ∈ o.op.operands, VR c (E.eval t x) (a.eval x)) →
      ∃ vs, Instr.fill (fun i => some (i * sz, sz)) ((Array.range (m * sz)).map (z.cells[· % z.cells.size]!)) (parts.map fun q => (q.1, a.eval q.2)).toList = some vs ∧ RowsOK c vs es sz := by
    intro c a hx
    have hrow : RowsOK c ((Array.range (m * sz)).map (z.cells[· % z.cells.size]!)) (List.replicate m zs) sz := by
      refine ⟨by simp, fun e he => by rw [List.eq_of_mem_replicate he]; exact hzs, fun k j x hg => ?_⟩
      unfold get2 at hg
      cases hk : (List.replicate m zs)[k]? with
      | none => simp [hk] at hg
      | some y =>
        have hy := List.eq_of_mem_replicate (List.mem_of_getElem? hk)
        have hkm : k < m := by have := (List.getElem?_eq_some_iff.1 hk).1; simpa using this
        subst hy
        simp only [hk, Option.bind_some] at hg
        have hj : j < sz := by rw [← hzs]; exact (List.getElem?_eq_some_iff.1 hg).1
        have hlt : k * sz + j < m * sz := by
          have : (k + 1) * sz ≤ m * sz := Nat.mul_le_mul_right _ hkm
          rw [Nat.succ_mul] at this; omega
        have hmod : (k * sz + j) % z.cells.size = j := by
          rw [hzsz, Nat.mul_comm, Nat.mul_add_mod, Nat.mod_eq_of_lt hj]
        have hjz : j < z.cells.size := by omega
        refine ⟨z.cells[j], ?_, ?_⟩
        · simp [hlt, hmod, hjz]
        · subst hzv
          simp only [List.getElem?_map, Array.getElem?_toList] at hg
          rw [Array.getElem?_eq_getElem hjz] at hg
          simp only [Option.map_some, Option.some.injEq] at hg
          subst hg
          exact ofConst_ok c _
    obtain ⟨vs, h1, h2⟩ := lit_ok (E := E) (t := t) (c := c) (a := a) (sz := sz) parts.toList _ es _ (fun x hx' => hx x (by simpa [ho, Op.operands] using hx')) hrow hl
    exact ⟨vs, by simpa using h1, h2⟩
  -- the shape of the elements does not hang on the context
  have hlen : ∀ (ps : List (Nat × Operand)) (xs ys : List (List V)), litV E t sz xs ps = some ys → (∀ e ∈ xs, e.length = sz) → ys.length = xs.length ∧ ∀ e ∈ ys, e.length = sz := by
    intro ps
    induction ps with
    | nil => intro xs ys h1 h2; simp only [litV, Option.some.injEq] at h1; subst h1; exact ⟨rfl, h2⟩
    | cons q r ih =>
      intro xs ys h1 h2
      obtain ⟨i, x⟩ := q
      simp only [litV] at h1
      split at h1
      · rename_i hc
        simp only [Bool.and_eq_true, beq_iff_eq, decide_eq_true_eq] at hc
        obtain ⟨k1, k2⟩ := ih _ _ h1 (fun e he => by
          rcases List.mem_or_eq_of_mem_set he with h9 | h9
          · exact h2 e h9
          · rw [h9]; exact hc.1.2)
        exact ⟨by simpa using k1, k2⟩
      · cases h1
  obtain ⟨hel, hee⟩ := hlen _ _ _ hl (fun e he => by rw [List.eq_of_mem_replicate he]; exact hzs)
  simp only [List.length_replicate] at hel
  refine OpOK.makes hee fun c a h2 hx hg => ?_
  obtain ⟨vs, h1, h3⟩ := main c a hx
  refine ⟨vs, .slice (some ⟨c.w.heap.size, 0, none⟩) m m, ?_, h3.size, fun k j x hg2 => ?_, fun c' hc' => ?_⟩
  · have hnb : ¬ m * sz > 2 ^ 24 := by have : (2:Nat) ^ 24 = 16777216 := by decide
                                       omega
    by_cases hm : m * sz = 0
    · have hm0 : m = 0 := by
        rcases Nat.mul_eq_zero.1 hm with h | h
        · exact h
        · exact absurd h h0
      subst hm0
      simp only [Nat.zero_mul] at h1
      simp only [execOp, ho, Instr.buildSlice, Sem.run_bind, run_underlying hu, Result.andThen_ok, sizeOf, typeInfo, run_program, hi, Sem.run_pure, hiz, Nat.zero_mul, gt_iff_lt, Nat.not_lt_zero, if_false, if_true]
      have e1 : (Array.range 0).map (fun x => (#[] : Array Value)[x % (#[] : Array Value).size]!) = (Array.range 0).map (fun x => z.cells[x % z.cells.size]!) := by simp
      rw [e1, h1]
      simp [newRow]
    · simp only [execOp, ho, Instr.buildSlice, Sem.run_bind, run_underlying hu, Result.andThen_ok, sizeOf, typeInfo, run_program, hi, Sem.run_pure, hiz, if_neg hnb, if_neg hm, hzr]
      rw [h1]
      simp [newRow]
  · obtain ⟨u, k1, k2⟩ := h3.get k j x hg2
    refine ⟨u, k1, k2, k2.oneCell ?_⟩
    unfold get2 at hg2
    cases hk : es[k]? with
    | none => simp [hk] at hg2
    | some y =>
      simp only [hk, Option.bind_some] at hg2
      exact (List.all_eq_true.1 ((List.all_eq_true.1 hc) y (List.mem_of_getElem? hk))) x (List.mem_of_getElem? hg2)
  · have := VR.view (c := c') n 0 m _ 0 m hc' (.inr ⟨by simp, by simp [← h3.size, hel]⟩) (Nat.le_refl _)
    simpa using this

end ops
end Go.V
