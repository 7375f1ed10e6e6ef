import Derived.Laws.AppendOwn
import Derived.Laws.MakeOwn
import Derived.Lib.ConvBytes
import Derived.Laws.BytesString
import Derived.LoopN
import Derived.Test.YtknnniaoboaghaaM1
namespace Go.V
open Go.RowKit (Below)
set_option linter.unusedSimpArgs false
set_option linter.unusedVariables false
structure CellsOK (c : Cx) (vs : Array Value) (cs : List V) : Prop where
  size : vs.size = cs.length
  get : ∀ (k : Nat) (x : V) (v : Value), cs[k]? = some x → vs[k]? = some v → VR c x v
theorem CellsOK.mono {c c' : Cx} {vs : Array Value} {cs : List V} (h : CellsOK c vs cs) (e : Ext c c') : CellsOK c' vs cs := ⟨h.size, fun k x v h1 h2 => (h.get k x v h1 h2).mono e⟩
theorem foldl_zipIdx (off : Nat) : ∀ (l : List Value) (m : Nat) (cells : Array Value), (l.zipIdx m).foldl (fun cs (c, j) => cs.setIfInBounds (off + j) c) cells = setArr cells (off + m) l
  | [], _, _ => rfl
  | v :: r, m, cells => by
    rw [List.zipIdx_cons, List.foldl_cons, foldl_zipIdx off r (m + 1), setArr]
    rfl
theorem CellsOK.blit {c : Cx} {vs : Array Value} {cs : List V} (h : CellsOK c vs cs) {us : Array Value} {xs : List V} (hx : CellsOK c us xs) {off : Nat} (hl : off + xs.length ≤ cs.length) :
    CellsOK c (us.zipIdx.foldl (fun cs (c, j) => cs.setIfInBounds (off + j) c) vs) (splice cs off xs) := by
  have e : us.zipIdx.foldl (fun cs (c, j) => cs.setIfInBounds (off + j) c) vs = setArr vs off us.toList := by
    rw [← Array.foldl_toList, Array.toList_zipIdx]
    exact foldl_zipIdx off us.toList 0 vs
  rw [e]
  refine ⟨by rw [size_setArr, length_splice _ _ _ hl, h.size], fun k x v h1 h2 => ?_⟩
  rw [get_splice _ _ _ hl] at h1
  have hus : us.toList.length = xs.length := by simpa using hx.size
  split at h1
  · rename_i hk
    have hlt : k - off < us.size := by rw [hx.size]; omega
    have := get_setArr_in us.toList vs off (k - off) us[k - off] (by rw [hus, h.size]; exact hl) (by simp [hlt])
    rw [show off + (k - off) = k from by omega, h2] at this
    exact hx.get (k - off) x v h1 (by simpa [hlt] using this.symm)
  · rename_i hk
    rw [get_setArr_out _ _ _ _ (by rw [hus]; omega)] at h2
    exact h.get k x v h1 h2
def fillV (place : Nat → Option (Nat × Nat)) (cs : List V) : List (Nat × V) → Option (List V)
  | [] => some cs
  | (i, v) :: r => match place i with
    | some (off, size) => if v.known && v.cells.length == size && decide (off + size ≤ cs.length) then fillV place (splice cs off v.cells) r else none
    | none => none
theorem fill_ok {c : Cx} {place : Nat → Option (Nat × Nat)} : ∀ (ps : List (Nat × V)) (qs : List (Nat × Value)) (cs cs' : List V) (vs : Array Value),
    CellsOK c vs cs → ps.length = qs.length → (∀ (k : Nat) (p : Nat × V) (q : Nat × Value), ps[k]? = some p → qs[k]? = some q → p.1 = q.1 ∧ VR c p.2 q.2) → fillV place cs ps = some cs' →
    ∃ vs', Instr.fill place vs qs = some vs' ∧ CellsOK c vs' cs'
  | [], [], cs, cs', vs, h, _, _, hf => by simp only [fillV, Option.some.injEq] at hf; subst hf; exact ⟨vs, rfl, h⟩
  | [], q :: qs, _, _, _, _, hl, _, _ => by simp at hl
  | p :: ps, [], _, _, _, _, hl, _, _ => by simp at hl
  | (i, x) :: ps, (i', v) :: qs, cs, cs', vs, h, hl, hr, hf => by
    have h0 := hr 0 (i, x) (i', v) rfl rfl
    obtain ⟨rfl, hv⟩ := h0
    have hv : VR c x v := hv
    simp only [fillV] at hf
    cases hp : place i with
    | none => simp [hp] at hf
    | some os =>
      obtain ⟨off, size⟩ := os
      simp only [hp] at hf
      split at hf
      · rename_i hc
        simp only [Bool.and_eq_true, beq_iff_eq, decide_eq_true_eq] at hc
        obtain ⟨⟨hk, hz⟩, hle⟩ := hc
        have hcell := hv.cells hk
        have hb := h.blit (us := v.cells) (xs := x.cells) ⟨hcell.1, hcell.2⟩ (off := off) (by omega)
        obtain ⟨vs', h1, h2⟩ := fill_ok ps qs _ cs' _ hb (by simpa using hl) (fun k p q hp hq => hr (k + 1) p q (by simpa using hp) (by simpa using hq)) hf
        refine ⟨vs', ?_, h2⟩
        have hnot : ¬ ((v.cells.size ≠ size || off + v.cells.size > vs.size) = true) := by
          have e1 := hcell.1
          have e2 := h.size
          simp only [ne_eq, decide_not, gt_iff_lt, Bool.or_eq_true, Bool.not_eq_eq_eq_not, Bool.not_true, decide_eq_false_iff_not, decide_eq_true_eq, not_or, Decidable.not_not]
          omega
        simp only [Instr.fill, hp, if_neg hnot]
        exact h1
      · cases hf
def placesP (P : Program) (fs : Array Field) : Option (List (Nat × Nat)) := fs.toList.mapM fun f => (P.info? f.type).map fun i => (f.offset, i.size)
theorem run_places {P : Program} {w : World} : ∀ (fs : List Field) (ps : List (Nat × Nat)), (fs.mapM fun f => (P.info? f.type).map fun i => (f.offset, i.size)) = some ps →
    ((fs.mapM fun f => (do pure (f.offset, ← sizeOf f.type) : Sem (Nat × Nat)))).run P w = .ok ps w
  | [], ps, h => by simp at h; subst h; simp
  | f :: fs, ps, h => by
    rw [List.mapM_cons] at h
    cases hi : P.info? f.type with
    | none => simp [hi] at h
    | some i =>
      simp only [hi, Option.map_some] at h
      cases hr : (fs.mapM fun f => (P.info? f.type).map fun i => (f.offset, i.size)) with
      | none => simp [hr] at h
      | some rs =>
        simp only [hr] at h
        have : ps = (f.offset, i.size) :: rs := by simpa using h.symm
        subst this
        have ih := run_places (P := P) (w := w) fs rs hr
        rw [List.mapM_cons]
        simp only [Sem.run_bind, sizeOf, typeInfo, run_program, Result.andThen_ok, hi, Sem.run_pure] at ih ⊢
        rw [ih]
        rfl
def buildV (E : Env) (t : Nat → V) (ty : TypeId) (parts : Array (Nat × Operand)) : Option (List V) :=
  match E.P.underlying ty, zeroV E.P ty with
  | some (.struct fs), some zs => match placesP E.P fs with
    | some ps => fillV (ps[·]?) zs (parts.toList.map fun q => (q.1, E.eval t q.2))
    | none => none
  | some (.array _ e), some zs => match E.P.info? e with
    | some i => fillV (fun k => some (k * i.size, i.size)) zs (parts.toList.map fun q => (q.1, E.eval t q.2))
    | none => none
  | _, _ => none
theorem mapM_arr {P : Program} {w : World} {fs : Array Field} {ps : List (Nat × Nat)} (h : placesP P fs = some ps) :
    ((fs.mapM fun f => (do pure (f.offset, ← sizeOf f.type) : Sem (Nat × Nat)))).run P w = .ok ps.toArray w := by
  rw [Array.mapM_eq_mapM_toList, Sem.run_map, run_places fs.toList ps h]
  rfl
section ops
variable {E : Env} {o : Oper} {t : Nat → V} {h : Heap} {n : Nat}
theorem parts_ok {c : Cx} {a : Act} {parts : Array (Nat × Operand)} (hx : ∀ x ∈ (parts.toList.map (·.2)).toArray, VR c (E.eval t x) (a.eval x)) :
    (parts.toList.map fun q => (q.1, E.eval t q.2)).length = (parts.map fun q => (q.1, a.eval q.2)).toList.length ∧
    ∀ (k : Nat) (p : Nat × V) (q : Nat × Value), (parts.toList.map fun q => (q.1, E.eval t q.2))[k]? = some p → (parts.map fun q => (q.1, a.eval q.2)).toList[k]? = some q → p.1 = q.1 ∧ VR c p.2 q.2 := by
  refine ⟨by simp, fun k p q hp hq => ?_⟩
  simp only [Array.toList_map, List.getElem?_map] at hp hq
  cases hk : parts.toList[k]? with
  | none => simp [hk] at hp
  | some r =>
    simp only [hk, Option.map_some, Option.some.injEq] at hp hq
    subst hp; subst hq
    refine ⟨rfl, hx r.2 ?_⟩
    simp only [List.mem_toArray, List.mem_map]
    exact ⟨r, List.mem_of_getElem? hk, rfl⟩
theorem op_build {ty : TypeId} {parts : Array (Nat × Operand)} {cs : List V} (ho : o.op = .build ty parts) (hb : buildV E t ty parts = some cs) : OpOK E o t h n [] false (.agg cs) [] n :=
  OpOK.value fun c a h2 hx' hg hrd => by
    have hp := parts_ok (E := E) (t := t) (c := c) (a := a) (parts := parts) (fun x hx => hx' x (by simpa [ho, Op.operands] using hx))
    unfold buildV at hb
    cases hu : E.P.underlying ty with
    | none => simp [hu] at hb
    | some d =>
      cases hz : zeroV E.P ty with
      | none => cases d <;> simp [hu, hz] at hb
      | some zs =>
        obtain ⟨z, hzr, hzs⟩ := zeroV_run hz
        have hzc : CellsOK c z.cells zs := by
          subst hzs
          refine ⟨by simp, fun k x v h1 h2 => ?_⟩
          simp only [List.getElem?_map, Array.getElem?_toList, h2, Option.map_some, Option.some.injEq] at h1
          subst h1
          exact ofConst_ok c v
        cases d with
        | struct fs =>
          simp only [hu, hz] at hb
          cases hps : placesP E.P fs with
          | none => simp [hps] at hb
          | some ps =>
            simp only [hps] at hb
            obtain ⟨vs, h1, h2⟩ := fill_ok _ _ zs cs z.cells hzc hp.1 hp.2 hb
            refine ⟨.agg vs, ?_, .agg _ _ h2.size.symm h2.get⟩
            have h1' : Instr.fill (fun x => ps[x]?) z.cells (parts.map fun q => (q.1, a.eval q.2)).toList = some vs := h1
            simp only [execOp, ho, Instr.build, Sem.run_bind, hzr, Result.andThen_ok, run_underlying hu, mapM_arr hps]
            simp only [List.getElem?_toArray, h1', Sem.run_pure, Result.andThen_ok]
        | array m e =>
          simp only [hu, hz] at hb
          cases hi : E.P.info? e with
          | none => simp [hi] at hb
          | some i =>
            simp only [hi] at hb
            obtain ⟨vs, h1, h2⟩ := fill_ok _ _ zs cs z.cells hzc hp.1 hp.2 hb
            refine ⟨.agg vs, ?_, .agg _ _ h2.size.symm h2.get⟩
            simp only [execOp, ho, Instr.build, Sem.run_bind, hzr, Result.andThen_ok, run_underlying hu, sizeOf, typeInfo, run_program, hi, Sem.run_pure]
            simp only [h1, Sem.run_pure, Result.andThen_ok]
        | _ => simp [hu, hz] at hb
def litV (E : Env) (t : Nat → V) (sz : Nat) : List (List V) → List (Nat × Operand) → Option (List (List V))
  | es, [] => some es
  | es, (i, x) :: r => if (E.eval t x).known && (E.eval t x).cells.length == sz && decide (i < es.length) then litV E t sz (es.set i (E.eval t x).cells) r else none
structure RowsOK (c : Cx) (vs : Array Value) (es : List (List V)) (sz : Nat) : Prop where
  size : es.length * sz = vs.size
  each : ∀ e ∈ es, e.length = sz
  get : ∀ i j x, get2 es i j = some x → ∃ u, vs[i * sz + j]? = some u ∧ VR c x u
theorem RowsOK.set {c : Cx} {vs : Array Value} {es : List (List V)} {sz : Nat} (h : RowsOK c vs es sz) {us : Array Value} {xs : List V} (hx : CellsOK c us xs) (hz : xs.length = sz) {i : Nat} (hi : i < es.length) :
    RowsOK c (us.zipIdx.foldl (fun cs (c, j) => cs.setIfInBounds (i * sz + j) c) vs) (es.set i xs) sz := by
  have e : us.zipIdx.foldl (fun cs (c, j) => cs.setIfInBounds (i * sz + j) c) vs = setArr vs (i * sz) us.toList := by
    rw [← Array.foldl_toList, Array.toList_zipIdx]
    exact foldl_zipIdx (i * sz) us.toList 0 vs
  rw [e]
  have hus : us.toList.length = sz := by rw [← hz]; simpa using hx.size
  have hrow : i * sz + sz ≤ vs.size := by
    have : (i + 1) * sz ≤ es.length * sz := Nat.mul_le_mul_right _ hi
    rw [Nat.succ_mul, h.size] at this; exact this
  refine ⟨by rw [size_setArr]; simpa using h.size, fun e he => ?_, fun i' j x hg => ?_⟩
  · rcases List.mem_or_eq_of_mem_set he with h9 | h9
    · exact h.each e h9
    · rw [h9, hz]
  · by_cases hii : i' = i
    · subst hii
      simp only [get2, List.getElem?_set_self hi, Option.bind_some] at hg
      have hlt : j < us.size := by rw [hx.size]; exact (List.getElem?_eq_some_iff.1 hg).1
      exact ⟨us[j], get_setArr_in us.toList vs (i' * sz) j us[j] (by omega) (by simp [hlt]), hx.get j x _ hg (by simp [hlt])⟩
    · simp only [get2, List.getElem?_set_ne (Ne.symm hii)] at hg
      obtain ⟨u, h1, h2⟩ := h.get i' j x hg
      refine ⟨u, ?_, h2⟩
      have hj : j < sz := by
        cases hes : es[i']? with
        | none => simp [hes] at hg
        | some e =>
          simp only [hes, Option.bind_some] at hg
          have := (List.getElem?_eq_some_iff.1 hg).1
          rw [h.each e (List.mem_of_getElem? hes)] at this; exact this
      rw [get_setArr_out, h1]
      rcases Nat.lt_or_gt_of_ne hii with hlt | hgt
      · have : (i' + 1) * sz ≤ i * sz := Nat.mul_le_mul_right _ hlt
        rw [Nat.succ_mul] at this; omega
      · have : (i + 1) * sz ≤ i' * sz := Nat.mul_le_mul_right _ hgt
        rw [Nat.succ_mul] at this; omega
theorem lit_ok {c : Cx} {a : Act} {sz : Nat} : ∀ (ps : List (Nat × Operand)) (es es' : List (List V)) (vs : Array Value), (∀ x ∈ ps.map (·.2), VR c (E.eval t x) (a.eval x)) → RowsOK c vs es sz →
    litV E t sz es ps = some es' → ∃ vs', Instr.fill (fun i => some (i * sz, sz)) vs (ps.map fun q => (q.1, a.eval q.2)) = some vs' ∧ RowsOK c vs' es' sz
  | [], es, es', vs, _, h, hf => by simp only [litV, Option.some.injEq] at hf; subst hf; exact ⟨vs, rfl, h⟩
  | (i, x) :: ps, es, es', vs, hx, h, hf => by
    simp only [litV] at hf
    split at hf
    · rename_i hc
      simp only [Bool.and_eq_true, beq_iff_eq, decide_eq_true_eq] at hc
      obtain ⟨⟨hk, hz⟩, hle⟩ := hc
      have hv := hx x (by simp)
      have hcell := hv.cells hk
      have hs := h.set (us := (a.eval x).cells) (xs := (E.eval t x).cells) ⟨hcell.1, hcell.2⟩ hz hle
      obtain ⟨vs', h1, h2⟩ := lit_ok ps _ es' _ (fun y hy => hx y (by simp only [List.map_cons, List.mem_cons]; exact .inr hy)) hs hf
      refine ⟨vs', ?_, h2⟩
      have hrow : i * sz + sz ≤ vs.size := by
        have : (i + 1) * sz ≤ es.length * sz := Nat.mul_le_mul_right _ hle
        rw [Nat.succ_mul, h.size] at this; exact this
      have e1 := hcell.1
      have hnot : ¬ (((a.eval x).cells.size ≠ sz || i * sz + (a.eval x).cells.size > vs.size) = true) := by
        simp only [ne_eq, decide_not, gt_iff_lt, Bool.or_eq_true, Bool.not_eq_eq_eq_not, Bool.not_true, decide_eq_false_iff_not, decide_eq_true_eq, not_or, Decidable.not_not]
        omega
      simp only [List.map_cons, Instr.fill, if_neg hnot]
      exact h1
    · cases hf
theorem op_buildSlice {ty e : TypeId} {m sz : Nat} {parts : Array (Nat × Operand)} {zs : List V} {es : List (List V)} (ho : o.op = .buildSlice ty m parts) (hs : sliceP E.P ty = some (e, sz)) (hz : zeroV E.P e = some zs)
    (hzs : zs.length = sz) (h0 : sz ≠ 0) (hb : m * sz ≤ 16777216) (hl : litV E t sz (List.replicate m zs) parts.toList = some es) (hc : (es.all fun x => x.all V.cell) = true) :
    OpOK E o t h n [] false (.view n 0 m) [(n, some ⟨es, sz, e⟩)] (n + 1) := by
  obtain ⟨z, hzr, hzv⟩ := zeroV_run hz
  obtain ⟨hu, i, hi, hiz⟩ := sliceP_spec hs
  have hzsz : z.cells.size = sz := by rw [← hzs, hzv]; simp
  have main : ∀ (c : Cx) (a : Act), (∀ x ∈ o.op.operands, VR c (E.eval t x) (a.eval x)) →
      ∃ vs, Instr.fill (fun i => some (i * sz, sz)) ((Array.range (m * sz)).map (z.cells[· % z.cells.size]!)) (parts.map fun q => (q.1, a.eval q.2)).toList = some vs ∧ RowsOK c vs es sz := by
    intro c a hx
    have hrow : RowsOK c ((Array.range (m * sz)).map (z.cells[· % z.cells.size]!)) (List.replicate m zs) sz := by
      refine ⟨by simp, fun e he => by rw [List.eq_of_mem_replicate he]; exact hzs, fun k j x hg => ?_⟩
      unfold get2 at hg
      cases hk : (List.replicate m zs)[k]? with
      | none => simp [hk] at hg
      | some y =>
        have hy := List.eq_of_mem_replicate (List.mem_of_getElem? hk)
        have hkm : k < m := by have := (List.getElem?_eq_some_iff.1 hk).1; simpa using this
        subst hy
        simp only [hk, Option.bind_some] at hg
        have hj : j < sz := by rw [← hzs]; exact (List.getElem?_eq_some_iff.1 hg).1
        have hlt : k * sz + j < m * sz := by
          have : (k + 1) * sz ≤ m * sz := Nat.mul_le_mul_right _ hkm
          rw [Nat.succ_mul] at this; omega
        have hmod : (k * sz + j) % z.cells.size = j := by
          rw [hzsz, Nat.mul_comm, Nat.mul_add_mod, Nat.mod_eq_of_lt hj]
        have hjz : j < z.cells.size := by omega
        refine ⟨z.cells[j], ?_, ?_⟩
        · simp [hlt, hmod, hjz]
        · subst hzv
          simp only [List.getElem?_map, Array.getElem?_toList] at hg
          rw [Array.getElem?_eq_getElem hjz] at hg
          simp only [Option.map_some, Option.some.injEq] at hg
          subst hg
          exact ofConst_ok c _
    obtain ⟨vs, h1, h2⟩ := lit_ok (E := E) (t := t) (c := c) (a := a) (sz := sz) parts.toList _ es _ (fun x hx' => hx x (by simpa [ho, Op.operands] using hx')) hrow hl
    exact ⟨vs, by simpa using h1, h2⟩
  
  have hlen : ∀ (ps : List (Nat × Operand)) (xs ys : List (List V)), litV E t sz xs ps = some ys → (∀ e ∈ xs, e.length = sz) → ys.length = xs.length ∧ ∀ e ∈ ys, e.length = sz := by
    intro ps
    induction ps with
    | nil => intro xs ys h1 h2; simp only [litV, Option.some.injEq] at h1; subst h1; exact ⟨rfl, h2⟩
    | cons q r ih =>
      intro xs ys h1 h2
      obtain ⟨i, x⟩ := q
      simp only [litV] at h1
      split at h1
      · rename_i hc
        simp only [Bool.and_eq_true, beq_iff_eq, decide_eq_true_eq] at hc
        obtain ⟨k1, k2⟩ := ih _ _ h1 (fun e he => by
          rcases List.mem_or_eq_of_mem_set he with h9 | h9
          · exact h2 e h9
          · rw [h9]; exact hc.1.2)
        exact ⟨by simpa using k1, k2⟩
      · cases h1
  obtain ⟨hel, hee⟩ := hlen _ _ _ hl (fun e he => by rw [List.eq_of_mem_replicate he]; exact hzs)
  simp only [List.length_replicate] at hel
  refine OpOK.makes hee fun c a h2 hx hg => ?_
  obtain ⟨vs, h1, h3⟩ := main c a hx
  refine ⟨vs, .slice (some ⟨c.w.heap.size, 0, none⟩) m m, ?_, h3.size, fun k j x hg2 => ?_, fun c' hc' => ?_⟩
  · have hnb : ¬ m * sz > 2 ^ 24 := by have : (2:Nat) ^ 24 = 16777216 := (by decide); omega
    by_cases hm : m * sz = 0
    · have hm0 : m = 0 := by
        rcases Nat.mul_eq_zero.1 hm with h | h
        · exact h
        · exact absurd h h0
      subst hm0
      simp only [Nat.zero_mul] at h1
      simp only [execOp, ho, Instr.buildSlice, Sem.run_bind, run_underlying hu, Result.andThen_ok, sizeOf, typeInfo, run_program, hi, Sem.run_pure, hiz, Nat.zero_mul, gt_iff_lt, Nat.not_lt_zero, if_false, if_true]
      have e1 : (Array.range 0).map (fun x => (#[] : Array Value)[x % (#[] : Array Value).size]!) = (Array.range 0).map (fun x => z.cells[x % z.cells.size]!) := by simp
      rw [e1, h1]
      simp [newRow]
    · simp only [execOp, ho, Instr.buildSlice, Sem.run_bind, run_underlying hu, Result.andThen_ok, sizeOf, typeInfo, run_program, hi, Sem.run_pure, hiz, if_neg hnb, if_neg hm, hzr]
      rw [h1]
      simp [newRow]
  · obtain ⟨u, k1, k2⟩ := h3.get k j x hg2
    refine ⟨u, k1, k2, k2.oneCell ?_⟩
    unfold get2 at hg2
    cases hk : es[k]? with
    | none => simp [hk] at hg2
    | some y =>
      simp only [hk, Option.bind_some] at hg2
      exact (List.all_eq_true.1 ((List.all_eq_true.1 hc) y (List.mem_of_getElem? hk))) x (List.mem_of_getElem? hg2)
  · have := VR.view (c := c') n 0 m _ 0 m hc' (.inr ⟨by simp, by simp [← h3.size, hel]⟩) (Nat.le_refl _)
    simpa using this
end ops
end Go.V
namespace Go.V
open Go.RowKit (Below)
set_option linter.unusedSimpArgs false
set_option linter.unusedVariables false
def srcV (h : Heap) : V → Option (List (List V))
  | .view id off len => match h id with
    | some b => if off + len ≤ b.es.length then some ((b.es.drop off).take len) else none
    | none => none
  | .sl fr _ es => some (es.map (·.map (T.toV fr)))
  | .nsl => some []
  | .str s => some (s.data.toList.map fun b => [.int .u8 b.toNat])
  | _ => none
def srcIds : V → List Nat
  | .view id _ _ => [id]
  | _ => []
theorem srcV_congr {h h2 : Heap} {x : V} (he : ∀ id ∈ srcIds x, h2 id = h id) : srcV h2 x = srcV h x := by
  cases x with
  | view id off len => simp only [srcV]; rw [he id (by simp [srcIds])]
  | _ => rfl
structure SrcOK (P : Program) (c : Cx) (v : Value) (ys : List (List V)) (sz : Nat) (news : List Value) : Prop where
  len : ∀ w, (Builtin.lenOf v).run P w = .ok ys.length w
  size : news.length = ys.length * sz
  first : ∀ w, w.heap = c.w.heap → (Builtin.firstCells sz ys.length v).run P w = .ok news.toArray w
  one : ∀ u ∈ news, u.oneCell' = true
  get : ∀ i j x, get2 ys i j = some x → ∃ u, news[i * sz + j]? = some u ∧ VR c x u
theorem div_mod {sz k m : Nat} (hz : sz ≠ 0) (hk : k < m * sz) : k / sz < m ∧ k % sz < sz ∧ k / sz * sz + k % sz = k := by
  refine ⟨(Nat.div_lt_iff_lt_mul (by omega)).2 hk, Nat.mod_lt _ (by omega), ?_⟩
  rw [Nat.mul_comm]; exact Nat.div_add_mod k sz
theorem div_mod_of {sz i j : Nat} (hj : j < sz) : (i * sz + j) / sz = i ∧ (i * sz + j) % sz = j := by
  have h0 : 0 < sz := by omega
  constructor
  · rw [Nat.mul_comm, Nat.mul_add_div h0, Nat.div_eq_of_lt hj]; omega
  · rw [Nat.mul_comm, Nat.mul_add_mod, Nat.mod_eq_of_lt hj]
theorem src_ok {E : Env} {c : Cx} {h : Heap} (hg : Good E c h) {x : V} {v : Value} (hv : VR c x v) {ys : List (List V)} {sz : Nat} (hs : srcV h x = some ys) (hz : sz ≠ 0) (hy : ∀ e ∈ ys, e.length = sz) :
    ∃ news, SrcOK E.P c v ys sz news := by
  cases hv with
  | nsl =>
    simp only [srcV, Option.some.injEq] at hs
    subst hs
    exact ⟨[], fun w => by simp [Builtin.lenOf], by simp, fun w _ => by simp [Builtin.firstCells], by simp, by simp [get2]⟩
  | str s =>
    simp only [srcV, Option.some.injEq] at hs
    subst hs
    by_cases hs0 : s.data.toList = []
    · refine ⟨[], fun w => ?_, by simp [hs0], fun w _ => ?_, by simp, by simp [get2, hs0]⟩
      · simp only [Builtin.lenOf, Sem.run_pure, hs0]
        have : s.size = 0 := by
          have : s.data.toList.length = 0 := by rw [hs0]; rfl
          simpa using this
        rw [this]; rfl
      · have h1 : s.data = #[] := by
          have : s.data.toList.toArray = #[] := by rw [hs0]
          simpa using this
        simp [Builtin.firstCells, h1]
    · have hsz : sz = 1 := by
        obtain ⟨b, hb⟩ := List.exists_mem_of_ne_nil _ hs0
        have := hy [.int .u8 b.toNat] (List.mem_map.2 ⟨b, hb, rfl⟩)
        simpa using this.symm
      subst hsz
      refine ⟨s.data.toList.map fun b => Value.int .u8 b.toNat, fun w => ?_, by simp, fun w _ => ?_, ?_, fun i j x hx => ?_⟩
      · simp [Builtin.lenOf]
      · have hx : (s.extract 0 s.data.size).data = s.data := by
          have : s.extract 0 s.size = s := ByteArray.extract_zero_size
          have h2 : s.data.size = s.size := rfl
          rw [h2, this]
        simp only [Builtin.firstCells, List.length_map, Array.length_toList, Sem.run_pure]
        rw [hx, List.map_toArray.symm]
      · intro u hu
        obtain ⟨b, _, rfl⟩ := List.mem_map.1 hu
        rfl
      · unfold get2 at hx
        rw [List.getElem?_map] at hx
        cases hb : s.data.toList[i]? with
        | none => simp [hb] at hx
        | some b =>
          simp only [hb, Option.map_some, Option.bind_some] at hx
          cases j with
          | zero =>
            simp only [List.getElem?_cons_zero, Option.some.injEq] at hx
            subst hx
            exact ⟨.int .u8 b.toNat, by rw [Nat.mul_one, Nat.add_zero, List.getElem?_map, hb]; rfl, .int _ _⟩
          | succ j => simp at hx
  | sl fr nn es v hv =>
    simp only [srcV, Option.some.injEq] at hs
    subst hs
    cases hv with
    | sl _ _ A len cap sz' rd hlen hcap hnil hI hsz hrd hsub =>
      subst hlen
      by_cases hes : es = []
      · subst hes
        refine ⟨[], fun w => by simp [Builtin.lenOf], by simp, fun w _ => ?_, by simp, by simp [get2]⟩
        cases A <;> simp [Builtin.firstCells, loadCells, loadCellsFrom]
      · have hzz : sz' = sz := by
          obtain ⟨e, he⟩ := List.exists_mem_of_ne_nil _ hes
          have := hy (e.map (T.toV fr)) (List.mem_map.2 ⟨e, he, rfl⟩)
          rw [List.length_map, hsz e he] at this
          exact this
        subst hzz
        cases A with
        | none => exact absurd (hnil rfl).2.1 hes
        | some A =>
          obtain ⟨b, off, sp⟩ := A
          obtain ⟨h1, h2⟩ := hI _ rfl hes
          simp only at h1 h2
          subst h1
          have hg2 : ∀ k, k < es.length * sz' → ∃ y, get2 es (k / sz') (k % sz') = some y := by
            intro k hk
            obtain ⟨k1, k2, k3⟩ := div_mod hz hk
            refine ⟨es[k / sz'][k % sz']'(by rw [hsz _ (List.getElem_mem k1)]; exact k2), ?_⟩
            simp [get2, k1, k2, hsz _ (List.getElem_mem k1)]
          refine ⟨(List.range (es.length * sz')).map fun k => rd (k / sz') (k % sz'), fun w => by simp [Builtin.lenOf], by simp, fun w hw => ?_, fun u hu => ?_, fun i j x hx => ?_⟩
          · refine run_firstCells_some (P := E.P) w sz' _ ⟨b, off, none⟩ es.length cap _ (by simp) fun k u hu => ?_
            have hk : k < es.length * sz' := by
              have := (List.getElem?_eq_some_iff.1 hu).1
              simpa using this
            simp only [List.getElem?_map, List.getElem?_range hk, Option.map_some, Option.some.injEq] at hu
            subst hu
            obtain ⟨y, hy'⟩ := hg2 k hk
            have := hrd _ _ _ _ rfl hy'
            obtain ⟨k1, k2, k3⟩ := div_mod hz hk
            rw [Addr.add_mid, cell_of_block (w := c.w) (by rw [hw])]
            rw [← this]
            simp only [Nat.add_assoc, k3]
          · obtain ⟨k, hk, rfl⟩ := List.mem_map.1 hu
            obtain ⟨y, hy'⟩ := hg2 k (List.mem_range.1 hk)
            exact (hsub _ _ _ hy').toV.oneCell (by cases y <;> rfl)
          · unfold get2 at hx
            rw [List.getElem?_map] at hx
            cases he : es[i]? with
            | none => simp [he] at hx
            | some e =>
              simp only [he, Option.map_some, Option.bind_some, List.getElem?_map] at hx
              cases hj : e[j]? with
              | none => simp [hj] at hx
              | some y =>
                simp only [hj, Option.map_some, Option.some.injEq] at hx
                subst hx
                have hil : i < es.length := (List.getElem?_eq_some_iff.1 he).1
                have hjl : j < sz' := by rw [← hsz e (List.mem_of_getElem? he)]; exact (List.getElem?_eq_some_iff.1 hj).1
                have hlt : i * sz' + j < es.length * sz' := by
                  have : (i + 1) * sz' ≤ es.length * sz' := Nat.mul_le_mul_right _ hil
                  rw [Nat.succ_mul] at this; omega
                obtain ⟨q1, q2⟩ := div_mod_of (i := i) hjl
                refine ⟨rd i j, by simp [List.getElem?_map, List.getElem?_range hlt, q1, q2], (hsub i j y (by simp [get2, he, hj])).toV⟩
  | view id off len p o cap hp ho hl hpm =>
    simp only [srcV] at hs
    cases hb : h id with
    | none => simp [hb] at hs
    | some b =>
      simp only [hb] at hs
      split at hs
      · rename_i hle
        simp only [Option.some.injEq] at hs
        subst hs
        obtain ⟨cells, fz, q2, q3, q4, q5, q6, q7, q8⟩ := hg.cells hb hp hpm
        have hyl : ((b.es.drop off).take len).length = len := by simp; omega
        by_cases hlen0 : len = 0
        · subst hlen0
          exact ⟨[], fun w => by simp [Builtin.lenOf], by simp, fun w _ => by simp [Builtin.firstCells, loadCells, loadCellsFrom], by simp, by simp [get2]⟩
        · have hbz : b.sz = sz := by
            have hlt : off < b.es.length := by omega
            have hm : b.es[off] ∈ (b.es.drop off).take len := by
              refine List.mem_of_getElem? (i := 0) ?_
              rw [List.getElem?_take_of_lt (by omega), List.getElem?_drop]
              simp [hlt]
            have := hy _ hm
            rw [q7 _ (List.getElem_mem hlt)] at this
            exact this
          obtain ⟨e1, e2⟩ := ho.resolve_left (by omega)
          rw [q2, hbz] at e1
          have hg2 : ∀ k, k < len * sz → ∃ y u, get2 b.es (off + k / sz) (k % sz) = some y ∧ cells[o + k]? = some u ∧ VR c y u ∧ u.oneCell' = true := by
            intro k hk
            obtain ⟨k1, k2, k3⟩ := div_mod hz hk
            have hlt : off + k / sz < b.es.length := by omega
            have hel := q7 _ (List.getElem_mem hlt)
            have hlt2 : k % sz < (b.es[off + k / sz]).length := by rw [hel, hbz]; exact k2
            have hy2 : get2 b.es (off + k / sz) (k % sz) = some (b.es[off + k / sz])[k % sz] := by simp [get2, hlt, hlt2]
            obtain ⟨u, g1, g2, g3⟩ := q8 _ _ _ hy2
            refine ⟨_, u, hy2, ?_, g2, g3⟩
            rw [← g1, hbz, e1]
            congr 1
            rw [Nat.add_mul]; omega
          refine ⟨(List.range (len * sz)).map fun k => (cells[o + k]?).getD undef, fun w => by simp [Builtin.lenOf, hyl], by simp [hyl], fun w hw => ?_, fun u hu => ?_, fun i j x hx => ?_⟩
          · rw [hyl]
            refine run_firstCells_some (P := E.P) w sz _ ⟨p.b, o, none⟩ len cap _ (by simp) fun k u hu => ?_
            have hk : k < len * sz := by
              have := (List.getElem?_eq_some_iff.1 hu).1
              simpa using this
            simp only [List.getElem?_map, List.getElem?_range hk, Option.map_some, Option.some.injEq] at hu
            subst hu
            obtain ⟨y, u, _, g2, _, _⟩ := hg2 k hk
            rw [Addr.add_mid]
            simp [World.cell?, hw, q3, g2]
          · obtain ⟨k, hk, rfl⟩ := List.mem_map.1 hu
            obtain ⟨y, u, _, g2, _, g4⟩ := hg2 k (List.mem_range.1 hk)
            rw [g2]; exact g4
          · unfold get2 at hx
            have hil : i < len := by
              cases hi : ((b.es.drop off).take len)[i]? with
              | none => simp [hi] at hx
              | some _ => have := (List.getElem?_eq_some_iff.1 hi).1; omega
            rw [List.getElem?_take_of_lt hil, List.getElem?_drop] at hx
            have hlt : off + i < b.es.length := by omega
            simp only [hlt, List.getElem?_eq_getElem, Option.bind_some] at hx
            have hjl : j < sz := by
              have := (List.getElem?_eq_some_iff.1 hx).1
              rw [q7 _ (List.getElem_mem hlt), hbz] at this; exact this
            have hlt2 : i * sz + j < len * sz := by
              have : (i + 1) * sz ≤ len * sz := Nat.mul_le_mul_right _ hil
              rw [Nat.succ_mul] at this; omega
            obtain ⟨y, u, g1, g2, g3, _⟩ := hg2 (i * sz + j) hlt2
            obtain ⟨d1, d2⟩ := div_mod_of (i := i) hjl
            rw [d1, d2] at g1
            have : y = x := by
              simp only [get2, hlt, List.getElem?_eq_getElem, Option.bind_some] at g1
              rw [g1] at hx; exact Option.some.inj hx
            subst this
            exact ⟨u, by simp [List.getElem?_map, List.getElem?_range hlt2, g2], g3⟩
      · cases hs
  | _ => simp [srcV] at hs
theorem run_append_room2 {P : Program} {w : World} {t tx ty e : TypeId} {dx : TypeDesc} {i : TypeInfo} (ht : P.underlying t = some (.slice e)) (htx : P.underlying tx = some dx) (hdx : dx = .string ∨ ∃ e', dx = .slice e')
    (hi : P.info? e = some i) {b o sLen sCap n : Nat} {x : Value} {news : List Value} (hlx : (Builtin.lenOf x).run P w = .ok n w) (hf : (Builtin.firstCells i.size n x).run P w = .ok news.toArray w)
    (hroom : sLen + n ≤ sCap) (hth : w.there b (o + sLen * i.size) news.length) (h1 : ∀ u ∈ news, u.oneCell' = true) :
    (Builtin.append_ #[t, tx] ty #[.slice (some ⟨b, o, none⟩) sLen sCap, x]).run P w = .ok (.slice (some ⟨b, o, none⟩) (sLen + n) sCap) (w.setCells b (o + sLen * i.size) news) := by
  have hst := run_storeCells_cells (P := P) b (o + sLen * i.size) news 0 w (fun j hj => by simpa using (hth j hj).1) (fun j hj => by simpa using (hth j hj).2) h1
  simp only [Nat.add_zero] at hst
  rcases hdx with rfl | ⟨e', rfl⟩
  · simp [Builtin.append_, run_underlying ht, run_underlying htx, sizeOf, typeInfo, hi, hlx, hroom, hf, Addr.add_mid, hst]
  · simp [Builtin.append_, run_underlying ht, run_underlying htx, sizeOf, typeInfo, hi, hlx, hroom, hf, Addr.add_mid, hst]
theorem run_append_grow2 {P : Program} {w : World} {t tx ty e : TypeId} {dx : TypeDesc} {i : TypeInfo} {z : Value} (ht : P.underlying t = some (.slice e)) (htx : P.underlying tx = some dx) (hdx : dx = .string ∨ ∃ e', dx = .slice e')
    (hi : P.info? e = some i) (hz : i.zero = some z) {base : Option Addr} {sLen sCap n : Nat} {x : Value} {olds news : List Value} (hlx : (Builtin.lenOf x).run P w = .ok n w)
    (hfo : (Builtin.firstCells i.size sLen (.slice base sLen sCap)).run P w.drew = .ok olds.toArray w.drew)
    (hf : (Builtin.firstCells i.size n x).run P w.drew = .ok news.toArray w.drew) (hg : sCap < sLen + n) (h63 : ((sLen + n : Nat) : Int) ≤ 9223372036854775807)
    (hfit : Builtin.nextslicecap (sLen + n) sCap * i.bytes ≤ 281474976710656) :
    (Builtin.append_ #[t, tx] ty #[.slice base sLen sCap, x]).run P w = .ok (.slice (some ⟨w.heap.size, 0, none⟩) (sLen + n) (grownCap w (sLen + n) sCap e))
        (w.drew.alloc (.cells ((olds ++ news).toArray ++ Builtin.zeroCells z.cells (grownCap w (sLen + n) sCap e - (sLen + n))) e)) := by
  have hn : ¬ (sLen + n ≤ sCap) := by omega
  have h63' : ¬ (9223372036854775807 < ((sLen : Int) + (n : Int))) := by omega
  have h48' : ¬ (281474976710656 < Builtin.nextslicecap (sLen + n) sCap * i.bytes) := by omega
  have ha : (olds ++ news).toArray = olds.toArray ++ news.toArray := by simp
  rcases hdx with rfl | ⟨e', rfl⟩
  · simp [Builtin.append_, run_underlying ht, run_underlying htx, sizeOf, typeInfo, zeroValue, hi, hz, hlx, hn, h63', h48', Question.forced, hfo, hf, newRow, grownCap, ha, Array.append_assoc, -List.append_toArray]
  · simp [Builtin.append_, run_underlying ht, run_underlying htx, sizeOf, typeInfo, zeroValue, hi, hz, hlx, hn, h63', h48', Question.forced, hfo, hf, newRow, grownCap, ha, Array.append_assoc, -List.append_toArray]
def elemP (P : Program) (ty : TypeId) : Option (TypeId × Nat × Nat) :=
  match P.underlying ty with
  | some (.slice e) => match P.info? e with
    | some i => match i.zero with
      | some z => if z.cells.size = i.size then some (e, i.size, i.bytes) else none
      | none => none
    | none => none
  | _ => none
theorem elemP_spec {P : Program} {ty e : TypeId} {sz by' : Nat} (h : elemP P ty = some (e, sz, by')) : ∃ i z, P.underlying ty = some (.slice e) ∧ P.info? e = some i ∧ i.zero = some z ∧ i.size = sz ∧ i.bytes = by' ∧ z.cells.size = sz := by
  unfold elemP at h
  split at h
  · rename_i e' hu
    split at h
    · rename_i i hi
      split at h
      · rename_i z hz
        split at h
        · rename_i hzz
          simp only [Option.some.injEq, Prod.mk.injEq] at h
          obtain ⟨rfl, rfl, rfl⟩ := h
          exact ⟨i, z, hu, hi, hz, rfl, rfl, hzz⟩
        · cases h
      · cases h
    · cases h
  · cases h
def srcP (P : Program) (tx : TypeId) : Bool :=
  match P.underlying tx with
  | some .string | some (.slice _) => true
  | _ => false
theorem srcP_spec {P : Program} {tx : TypeId} (h : srcP P tx = true) : ∃ d, P.underlying tx = some d ∧ (d = .string ∨ ∃ e', d = .slice e') := by
  unfold srcP at h
  split at h
  · rename_i hu; exact ⟨_, hu, .inl rfl⟩
  · rename_i hu; exact ⟨_, hu, .inr ⟨_, rfl⟩⟩
  · cases h
theorem Good.drew {E : Env} {c : Cx} {h : Heap} (hg : Good E c h) : Good E { c with w := c.w.drew } h := hg.same (Ext.same c rfl rfl rfl rfl) rfl
section ops
variable {E : Env} {o : Oper} {t : Nat → V} {h : Heap} {n : Nat}
theorem grown_rows {c : Cx} {xs ys : List (List V)} {olds news : List Value} {rest : Array Value} {sz : Nat} (hx : olds.length = xs.length * sz) (hy : news.length = ys.length * sz)
    (hxe : ∀ e ∈ xs, e.length = sz) (hye : ∀ e ∈ ys, e.length = sz)
    (hxg : ∀ i j x, get2 xs i j = some x → ∃ u, olds[i * sz + j]? = some u ∧ VR c x u) (hyg : ∀ i j x, get2 ys i j = some x → ∃ u, news[i * sz + j]? = some u ∧ VR c x u) :
    ∀ i j x, get2 (xs ++ ys) i j = some x → ∃ u, ((olds ++ news).toArray ++ rest)[i * sz + j]? = some u ∧ VR c x u := by
  intro i j x hg
  have hlt : ∀ (l : List (List V)) (i j : Nat) (x : V), (∀ e ∈ l, e.length = sz) → get2 l i j = some x → i < l.length ∧ j < sz := by
    intro l i j x he hg
    unfold get2 at hg
    cases hi : l[i]? with
    | none => simp [hi] at hg
    | some e =>
      simp only [hi, Option.bind_some] at hg
      refine ⟨(List.getElem?_eq_some_iff.1 hi).1, ?_⟩
      rw [← he e (List.mem_of_getElem? hi)]
      exact (List.getElem?_eq_some_iff.1 hg).1
  by_cases hi : i < xs.length
  · have hg' : get2 xs i j = some x := by
      unfold get2 at hg ⊢
      rw [List.getElem?_append_left hi] at hg; exact hg
    obtain ⟨u, h1, h2⟩ := hxg i j x hg'
    refine ⟨u, ?_, h2⟩
    have hk : i * sz + j < olds.length := (List.getElem?_eq_some_iff.1 h1).1
    rw [Array.getElem?_append_left (by simp; omega)]
    simp only [List.getElem?_toArray]
    rw [List.getElem?_append_left hk]; exact h1
  · have hg' : get2 ys (i - xs.length) j = some x := by
      unfold get2 at hg ⊢
      rw [List.getElem?_append_right (by omega)] at hg; exact hg
    obtain ⟨u, h1, h2⟩ := hyg _ j x hg'
    refine ⟨u, ?_, h2⟩
    have hk : (i - xs.length) * sz + j < news.length := (List.getElem?_eq_some_iff.1 h1).1
    have e1 : i * sz + j - olds.length = (i - xs.length) * sz + j := by
      rw [hx, Nat.sub_mul]
      have : xs.length * sz ≤ i * sz := Nat.mul_le_mul_right _ (by omega)
      omega
    have e2 : olds.length ≤ i * sz + j := by
      rw [hx]
      have : xs.length * sz ≤ i * sz := Nat.mul_le_mul_right _ (by omega)
      omega
    rw [Array.getElem?_append_left (by simp; omega)]
    simp only [List.getElem?_toArray]
    rw [List.getElem?_append_right e2, e1]; exact h1
theorem op_append_nil {ty tx e : TypeId} {x y : Operand} {sz by' : Nat} {ys : List (List V)} (ho : o.op = .call { callee := .builtin .append, args := #[x, y], argTypes := #[ty, tx] })
    (hx : E.eval t x = .nsl) (hs : elemP E.P ty = some (e, sz, by')) (htx : srcP E.P tx = true) (h0 : sz ≠ 0) (hy : srcV h (E.eval t y) = some ys) (hyz : ∀ c ∈ ys, c.length = sz) (hne : 0 < ys.length)
    (hb : ys.length * by' ≤ 140737488355328) (hl : ys.length ≤ 9223372036854775807) :
    OpOK E o t h n (srcIds (E.eval t y)) false (.view n 0 ys.length) [(n, some ⟨ys, sz, e⟩)] (n + 1) := by
  intro c a h2 K Q hd hx' hg hrd _ hf hK
  have g1 := (by have := hx' x (by simp [ho, Op.operands, Call.operands]); rw [hx] at this; exact this.nsl_inv)
  have g2 := hx' y (by simp [ho, Op.operands, Call.operands])
  obtain ⟨i, z, hu, hi, hz, rfl, rfl, hzz⟩ := elemP_spec hs
  obtain ⟨d, htu, hdi⟩ := srcP_spec htx
  obtain ⟨news, hsrc⟩ := src_ok hg g2 (by rw [srcV_congr hrd]; exact hy) h0 hyz
  have hn : c.ρ n = none := hf n (Nat.le_refl _) (by omega)
  have hxd : Ext c { c with w := c.w.drew } := Ext.same c rfl rfl rfl rfl
  have hgd := hg.drew
  have hrun := run_append_grow2 (P := E.P) (w := c.w) (ty := o.type) (base := none) (sLen := 0) (sCap := 0) (x := a.eval y) (olds := []) (news := news) hu htu hdi hi hz (hsrc.len _) (by simp [Builtin.firstCells]) (hsrc.first _ rfl)
    (by omega) (by omega) (growslice_fits (by omega) (by rw [Nat.zero_add]; exact hb))
  have hge := grownCap_ge c.w (0 + ys.length) 0 e
  generalize hcap : grownCap c.w (0 + ys.length) 0 e = cap at hrun hge
  simp only [Nat.zero_add, List.nil_append] at hrun hge
  have hex : (execOp a.eval o).run E.P c.w = .ok (.value (.slice (some ⟨c.w.heap.size, 0, none⟩) ys.length cap)) (({ c with w := c.w.drew } : Cx).new n (news.toArray ++ Builtin.zeroCells z.cells (cap - ys.length)) e i.size).w := by
    simp [execOp, ho, g1, resolve, invoke, builtin, hrun, Cx.new]
  unfold Oper.wp
  rw [hex, Oper.upon_value]
  have hrows := grown_rows (c := c) (xs := []) (ys := ys) (olds := []) (news := news) (rest := Builtin.zeroCells z.cells (cap - ys.length)) (sz := i.size) (by simp) hsrc.size (by simp) hyz (by simp [get2]) hsrc.get
  have hone : ∀ k u, (news.toArray ++ Builtin.zeroCells z.cells (cap - ys.length))[k]? = some u → k < news.length → u.oneCell' = true := by
    intro k u hk hlt
    rw [Array.getElem?_append_left (by simpa using hlt)] at hk
    exact hsrc.one u (List.mem_of_getElem? (by simpa using hk))
  have hsize : (news.toArray ++ Builtin.zeroCells z.cells (cap - ys.length)).size = cap * i.size := by
    simp only [Array.size_append, List.size_toArray, size_zeroCells, hsrc.size, hzz]
    rw [← Nat.add_mul]; congr 1; omega
  have hx2 := Cx.new_ext hgd (n := n) hn (news.toArray ++ Builtin.zeroCells z.cells (cap - ys.length)) e i.size
  refine hK _ _ (hxd.trans hx2) (Good.new hgd hn _ e i.size ys ?_ hyz fun i' j x hx => ?_) (new_dom _ _ _ _ _) ?_
  · rw [hsize]; exact Nat.mul_le_mul_right _ hge
  · obtain ⟨u, k1, k2⟩ := hrows i' j x (by simpa using hx)
    simp only [List.nil_append] at k1
    refine ⟨u, k1, k2.mono (hxd.trans hx2), ?_⟩
    have h9 := hsrc.get i' j x hx
    obtain ⟨u', k3, k4⟩ := h9
    exact hone _ u k1 (List.getElem?_eq_some_iff.1 k3).1
  · have := VR.view (c := ({ c with w := c.w.drew } : Cx).new n (news.toArray ++ Builtin.zeroCells z.cells (cap - ys.length)) e i.size) n 0 ys.length ⟨c.w.heap.size, 0, _, i.size, false⟩ 0 cap (by simp [Cx.new]; rfl) (.inr ⟨by simp, ?_⟩) hge
    · simpa using this
    · simp only [Nat.zero_mul, Nat.zero_add]
      rw [← hsize]; simp
def Cx.onto (c : Cx) (n : Nat) (p : Place) (k : Nat) (o : Nat) (vs : List Value) : Cx :=
  { c with ρ := upd c.ρ n (some ⟨p.b, p.o + k, p.cap - k, p.sz, false⟩), w := c.w.setCells p.b o vs }
theorem Good.onto {c : Cx} {h : Heap} (hg : Good E c h) {id n : Nat} {b : Blk} {p : Place} (hb : h id = some b) (hp : c.ρ id = some p) (hpm : p.m = false) (hn : c.ρ n = none) {off len : Nat} {ys : List (List V)} {news : List Value}
    (hfull : off + len = b.es.length) (hyz : ∀ e ∈ ys, e.length = b.sz) (hnl : news.length = ys.length * b.sz) (hget : ∀ i j x, get2 ys i j = some x → ∃ u, news[i * b.sz + j]? = some u ∧ VR c x u)
    (hone : ∀ u ∈ news, u.oneCell' = true) (hfit : (off + len + ys.length) * b.sz ≤ p.cap ∨ ys = []) :
    Ext c (c.onto n p (off * b.sz) (p.o + (off + len) * b.sz) news) ∧ Good E (c.onto n p (off * b.sz) (p.o + (off + len) * b.sz) news) (upd (upd h id none) n (some ⟨b.es.drop off ++ ys, b.sz, b.ty⟩)) := by
  have hin : id ≠ n := fun e => by rw [e, hn] at hp; cases hp
  have hx : Ext c (c.onto n p (off * b.sz) (p.o + (off + len) * b.sz) news) := by
    refine ⟨rfl, fun i q hq => ?_, fun _ h => h, fun k hk => heap_setCells_ne _ _ (fun (e : k = p.b) => hg.sep id b p hb hp (by rw [← e]; exact hk)) _ _ _, below_setCells _ _ (hg.own id p hp).1 _ _ _ _ (Below.refl _ _)⟩
    have : i ≠ n := fun e => by rw [e, hn] at hq; cases hq
    simp only [Cx.onto, upd_ne _ _ this, hq]
  refine ⟨hx, ?_⟩
  obtain ⟨cells, fz, q2, q3, q4, q5, q6, q7, q8⟩ := hg.cells hb hp hpm
  have hofc : off * b.sz ≤ p.cap := Nat.le_trans (Nat.mul_le_mul_right _ (by omega)) q6
  have hlive : ∀ i x, (upd (upd h id none) n (some ⟨b.es.drop off ++ ys, b.sz, b.ty⟩)) i = some x → i = n ∨ (i ≠ n ∧ i ≠ id ∧ h i = some x) := by
    intro i x hi
    by_cases h1 : i = n
    · exact .inl h1
    · rw [upd_ne _ _ h1] at hi
      by_cases h2 : i = id
      · subst h2; simp at hi
      · rw [upd_ne _ _ h2] at hi; exact .inr ⟨h1, h2, hi⟩
  have hrow : ∀ i, i < b.es.length → (i + 1) * b.sz ≤ b.es.length * b.sz := fun i hi => Nat.mul_le_mul_right _ hi
  refine ⟨fun i x hi => ?_, fun i i' x x' r r' hi hi' hr hr' he => ?_, fun k hk => ?_, fun i x r hi hr => ?_, fun i r hr => ?_, ?_, fun g cs hgc => (hg.glob g cs hgc).mono hx⟩
  · rcases hlive i x hi with rfl | ⟨h1, h2, h3⟩
    · simp only [upd_same, Option.some.injEq] at hi
      subst hi
      refine ⟨⟨p.b, p.o + off * b.sz, p.cap - off * b.sz, p.sz, false⟩, by simp [Cx.onto], fun _ => ⟨setArr cells (p.o + (off + len) * b.sz) news, fz, q2, heap_setCells _ _ _ _ _ _ _ q3, q4.imp (fun hz => hz) (fun hz => ⟨by simp only; omega, hz.2⟩), by rw [size_setArr]; simp only; omega, ?_, ?_, ?_⟩, fun h => by simp at h⟩
      · simp only [List.length_append, List.length_drop]
        have e1 : (b.es.length - off + ys.length) * b.sz + off * b.sz = (off + len + ys.length) * b.sz := by rw [← Nat.add_mul]; congr 1; omega
        rcases hfit with hfit | rfl
        · omega
        · simp only [List.length_nil, Nat.add_zero] at e1 ⊢
          rw [hfull] at e1; omega
      · intro e he
        rcases List.mem_append.1 he with h9 | h9
        · exact q7 e (List.mem_of_mem_drop h9)
        · exact hyz e h9
      · intro i' j y hy
        show ∃ v, (setArr cells (p.o + (off + len) * b.sz) news)[p.o + off * b.sz + i' * b.sz + j]? = some v ∧ _
        have hdl : (b.es.drop off).length = len := by simp; omega
        by_cases hil : i' < len
        · have hy2 : get2 b.es (off + i') j = some y := by
            unfold get2 at hy ⊢
            rw [List.getElem?_append_left (by omega), List.getElem?_drop] at hy
            exact hy
          obtain ⟨v, g1, g2, g3⟩ := q8 _ _ _ hy2
          have hj : j < b.sz := by
            unfold get2 at hy2
            cases hes : b.es[off + i']? with
            | none => simp [hes] at hy2
            | some e =>
              simp only [hes, Option.bind_some] at hy2
              have := (List.getElem?_eq_some_iff.1 hy2).1
              rw [q7 e (List.mem_of_getElem? hes)] at this; exact this
          refine ⟨v, ?_, g2.mono hx, g3⟩
          have e1 : p.o + off * b.sz + i' * b.sz + j = p.o + (off + i') * b.sz + j := by rw [Nat.add_mul]; omega
          have e2 : (off + i' + 1) * b.sz ≤ (off + len) * b.sz := Nat.mul_le_mul_right _ (by omega)
          rw [Nat.succ_mul] at e2
          rw [e1, get_setArr_out _ _ _ _ (by omega), g1]
        · have hy2 : get2 ys (i' - len) j = some y := by
            unfold get2 at hy ⊢
            rw [List.getElem?_append_right (by omega), hdl] at hy
            exact hy
          obtain ⟨u, g1, g2⟩ := hget _ _ _ hy2
          have hlt : (i' - len) * b.sz + j < news.length := (List.getElem?_eq_some_iff.1 g1).1
          refine ⟨u, ?_, g2.mono hx, hone u (List.mem_of_getElem? g1)⟩
          have e1 : p.o + off * b.sz + i' * b.sz + j = p.o + (off + len) * b.sz + ((i' - len) * b.sz + j) := by
            have : i' * b.sz = len * b.sz + (i' - len) * b.sz := by rw [← Nat.add_mul]; congr 1; omega
            rw [Nat.add_mul]; omega
          rw [e1]
          refine get_setArr_in news cells _ _ u ?_ g1
          rw [hnl]
          rcases hfit with hfit | rfl
          · rw [Nat.add_mul] at hfit; omega
          · simp at hnl; simp [hnl] at hlt
    · obtain ⟨r, g1, g2, g3⟩ := hg.blk i x h3
      have this : r.b ≠ p.b := fun e => h2 (hg.inj i id x b r p h3 hb g1 hp e)
      have hk : (c.onto n p (off * b.sz) (p.o + (off + len) * b.sz) news).w.heap[r.b]? = c.w.heap[r.b]? := heap_setCells_ne _ _ this _ _ _
      exact ⟨r, hx.rho _ _ g1, fun hm => (g2 hm).mono hx hk, fun hm => (g3 hm).mono hx hk⟩
  · have key : ∀ i x r, (upd (upd h id none) n (some ⟨b.es.drop off ++ ys, b.sz, b.ty⟩)) i = some x → (c.onto n p (off * b.sz) (p.o + (off + len) * b.sz) news).ρ i = some r →
        (i = n ∧ r.b = p.b) ∨ (i ≠ n ∧ i ≠ id ∧ h i = some x ∧ c.ρ i = some r) := by
      intro i x r hi hr
      rcases hlive i x hi with rfl | ⟨h1, h2, h3⟩
      · simp only [Cx.onto, upd_same, Option.some.injEq] at hr
        subst hr; exact .inl ⟨rfl, rfl⟩
      · simp only [Cx.onto, upd_ne _ _ h1] at hr
        exact .inr ⟨h1, h2, h3, hr⟩
    rcases key i x r hi hr with ⟨rfl, h1⟩ | ⟨h1, h2, h3, h4⟩ <;> rcases key i' x' r' hi' hr' with ⟨rfl, k1⟩ | ⟨k1, k2, k3, k4⟩
    · rfl
    · exact absurd (hg.inj i' id x' b r' p k3 hb k4 hp (by rw [← he, h1])) k2
    · exact absurd (hg.inj i id x b r p h3 hb h4 hp (by rw [he, k1])) h2
    · exact hg.inj i i' x x' r r' h3 k3 h4 k4 he
  · simp only [Cx.onto, size_setCells]; exact hg.imm k hk
  · rcases hlive i x hi with rfl | ⟨h1, h2, h3⟩
    · simp only [Cx.onto, upd_same, Option.some.injEq] at hr
      subst hr
      exact hg.sep id b p hb hp
    · simp only [Cx.onto, upd_ne _ _ h1] at hr
      exact hg.sep i x r h3 hr
  · simp only [Cx.onto, size_setCells]
    by_cases h1 : i = n
    · subst h1
      simp only [Cx.onto, upd_same, Option.some.injEq] at hr
      subst hr
      exact hg.own id p hp
    · simp only [Cx.onto, upd_ne _ _ h1] at hr
      exact hg.own i r hr
  · simp only [Cx.onto, size_setCells]; exact hg.base
theorem op_append_view {ty tx e : TypeId} {x y : Operand} {sz by' id off len : Nat} {b : Blk} {ys : List (List V)} (ho : o.op = .call { callee := .builtin .append, args := #[x, y], argTypes := #[ty, tx] })
    (hx : E.eval t x = .view id off len) (hb : h id = some b) (hbz : b.sz = sz) (hbt : b.ty = e) (hfull : off + len = b.es.length) (hs : elemP E.P ty = some (e, sz, by')) (htx : srcP E.P tx = true) (h0 : sz ≠ 0)
    (hy : srcV h (E.eval t y) = some ys) (hyz : ∀ c ∈ ys, c.length = sz) (hbd : (len + ys.length) * by' ≤ 140737488355328) (hl : len + ys.length ≤ 9223372036854775807) :
    OpOK E o t h n (id :: srcIds (E.eval t y)) false (.view n 0 (len + ys.length)) [(id, none), (n, some ⟨b.es.drop off ++ ys, sz, e⟩)] (n + 1) := by
  intro c a h2 K Q hd hx' hg hrd _ hf hK
  have g1 := hx' x (by simp [ho, Op.operands, Call.operands])
  rw [hx] at g1
  have g2 := hx' y (by simp [ho, Op.operands, Call.operands])
  obtain ⟨i, z, hu, hi, hz, rfl, rfl, hzz⟩ := elemP_spec hs
  obtain ⟨d, htu, hdi⟩ := srcP_spec htx
  have hb2 : h2 id = some b := by rw [hrd id (by simp)]; exact hb
  obtain ⟨news, hsrc⟩ := src_ok hg g2 (by rw [srcV_congr (fun id hid => hrd id (by simp [hid]))]; exact hy) h0 hyz
  have hn : c.ρ n = none := hf n (Nat.le_refl _) (by omega)
  have hold : srcV h2 (.view id off len) = some (b.es.drop off) := by
    simp only [srcV, hb2]
    rw [if_pos (by omega), List.take_of_length_le (by simp; omega)]
  have g1' := g1
  have hpb : ∃ p, c.ρ id = some p ∧ p.m = false := by
    generalize a.eval x = w at g1'
    cases g1' with
    | view _ _ _ p _ _ hp _ _ hm => exact ⟨p, hp, hm⟩
  obtain ⟨pb, q1, hpm⟩ := hpb
  obtain ⟨cells, fz, q2, q3, q4, q5, q6, q7, q8⟩ := hg.cells hb2 q1 hpm
  have hdz : ∀ e ∈ b.es.drop off, e.length = i.size := fun e he => by rw [q7 e (List.mem_of_mem_drop he), hbz]
  obtain ⟨olds, hos⟩ := src_ok hg g1 hold h0 hdz
  have hdl : (b.es.drop off).length = len := by simp; omega
  generalize hw : a.eval x = w at g1 hos
  cases g1 with
  | view _ _ _ p o' cap hp hof hlc =>
    rw [hp] at q1; obtain rfl := Option.some.inj q1
    by_cases hroom : len + ys.length ≤ cap
    · have hthere : c.w.there p.b (o' + len * i.size) news.length := by
        intro k hk
        rw [hsrc.size] at hk
        have hcap : ¬ cap = 0 := fun e => by
          have : ys.length = 0 := by omega
          rw [this] at hk; simp at hk
        obtain ⟨e1, e2⟩ := hof.resolve_left hcap
        rw [q2, hbz] at e1 e2
        have hle : (len + ys.length) * i.size ≤ cap * i.size := Nat.mul_le_mul_right _ hroom
        rw [Nat.add_mul] at hle
        refine ⟨?_, ?_⟩
        · have : o' + len * i.size + k < cells.size := by omega
          simp [World.cell?, q3, this]
        · have : ¬ (fz.1 ≤ o' + len * i.size + k ∧ o' + len * i.size + k < fz.2) := by omega
          cases hz : (decide (fz.1 ≤ o' + len * i.size + k) && decide (o' + len * i.size + k < fz.2)) with
          | false => obtain ⟨z1, z2⟩ := fz; simpa [World.frozen?, q3] using hz
          | true =>
            simp only [Bool.and_eq_true, decide_eq_true_eq] at hz
            exact absurd hz this
      have hrun := run_append_room2 (P := E.P) (w := c.w) (ty := o.type) (sLen := len) (x := a.eval y) (news := news) hu htu hdi hi (hsrc.len _) (hsrc.first _ rfl) hroom hthere hsrc.one
      have hadd : ys ≠ [] → o' = p.o + off * i.size := fun hne => by
        have hcap : ¬ cap = 0 := fun e => by
          have : ys.length = 0 := by omega
          exact hne (List.eq_nil_of_length_eq_zero this)
        obtain ⟨e1, e2⟩ := hof.resolve_left hcap
        rw [q2, hbz] at e1; exact e1
      have hfit : (off + len + ys.length) * b.sz ≤ p.cap ∨ ys = [] := by
        by_cases hys : ys = []
        · exact .inr hys
        · left
          have hcap : ¬ cap = 0 := fun e => by
            have : ys.length = 0 := by omega
            exact hys (List.eq_nil_of_length_eq_zero this)
          obtain ⟨e1, e2⟩ := hof.resolve_left hcap
          have hle : (len + ys.length) * p.sz ≤ cap * p.sz := Nat.mul_le_mul_right _ hroom
          rw [← q2, Nat.add_assoc, Nat.add_mul]; omega
      obtain ⟨hx2, hg2⟩ := hg.onto (n := n) (ys := ys) (news := news) hb2 hp hpm hn hfull (by rw [hbz]; exact hyz) (by rw [hbz]; exact hsrc.size) (by rw [hbz]; exact hsrc.get) hsrc.one hfit
      have hworld : c.w.setCells p.b (o' + len * i.size) news = (c.onto n p (off * b.sz) (p.o + (off + len) * b.sz) news).w := by
        simp only [Cx.onto]
        by_cases hys : ys = []
        · have : news = [] := List.eq_nil_of_length_eq_zero (by rw [hsrc.size, hys]; simp)
          subst this; rfl
        · rw [hadd hys, hbz, Nat.add_mul]; congr 1; omega
      have hex : (execOp a.eval o).run E.P c.w = .ok (.value (.slice (some ⟨p.b, o', none⟩) (len + ys.length) cap)) (c.onto n p (off * b.sz) (p.o + (off + len) * b.sz) news).w := by
        rw [← hworld]
        simp [execOp, ho, hw, resolve, invoke, builtin, hrun]
      unfold Oper.wp
      rw [hex, Oper.upon_value]
      refine hK _ _ hx2 ?_ (fun id' hid' => ?_) ?_
      · have e1 : app [(id, none), (n, some ⟨b.es.drop off ++ ys, i.size, e⟩)] h2 = upd (upd h2 id none) n (some ⟨b.es.drop off ++ ys, b.sz, b.ty⟩) := by
          rw [hbz, hbt]; rfl
        rw [e1]; exact hg2
      · by_cases h9 : id' = n
        · exact .inr (by omega)
        · simp only [Cx.onto, upd_ne _ _ h9] at hid'; exact .inl hid'
      · refine .view n 0 _ ⟨p.b, p.o + off * b.sz, p.cap - off * b.sz, p.sz, false⟩ o' cap (by simp [Cx.onto]) ?_ hroom
        rcases hof with h9 | ⟨e1, e2⟩
        · exact .inl h9
        · refine .inr ⟨by simp only [Nat.zero_mul, Nat.add_zero]; rw [e1, q2], ?_⟩
          simp only [Nat.zero_mul, Nat.zero_add]
          rw [← q2]; omega
    · have hxd : Ext c { c with w := c.w.drew } := Ext.same c rfl rfl rfl rfl
      have hgd := hg.drew
      have hfo : (Builtin.firstCells i.size len (.slice (some ⟨p.b, o', none⟩) len cap)).run E.P c.w.drew = .ok olds.toArray c.w.drew := by
        have := hos.first c.w.drew rfl
        rw [hdl] at this; exact this
      have hrun := run_append_grow2 (P := E.P) (w := c.w) (ty := o.type) (base := some ⟨p.b, o', none⟩) (sLen := len) (sCap := cap) (x := a.eval y) (olds := olds) (news := news) hu htu hdi hi hz (hsrc.len _) hfo (hsrc.first _ rfl)
        (by omega) (by omega) (growslice_fits (by omega) hbd)
      have hge := grownCap_ge c.w (len + ys.length) cap e
      generalize hcap : grownCap c.w (len + ys.length) cap e = ncap at hrun hge
      have hex : (execOp a.eval o).run E.P c.w = .ok (.value (.slice (some ⟨c.w.heap.size, 0, none⟩) (len + ys.length) ncap)) (({ c with w := c.w.drew } : Cx).new n ((olds ++ news).toArray ++ Builtin.zeroCells z.cells (ncap - (len + ys.length))) e i.size).w := by
        have hrun' := hrun
        simp only [execOp, ho, resolve, invoke, builtin, List.map_toArray, List.map_cons, List.map_nil, hw, Sem.run_bind, Sem.run_pure, Result.andThen_ok, hrun', Cx.new]
      unfold Oper.wp
      rw [hex, Oper.upon_value]
      have hrows := grown_rows (c := c) (xs := b.es.drop off) (ys := ys) (olds := olds) (news := news) (rest := Builtin.zeroCells z.cells (ncap - (len + ys.length))) (sz := i.size) hos.size hsrc.size hdz hyz hos.get hsrc.get
      have hsize : ((olds ++ news).toArray ++ Builtin.zeroCells z.cells (ncap - (len + ys.length))).size = ncap * i.size := by
        simp only [Array.size_append, List.size_toArray, List.length_append, size_zeroCells, hsrc.size, hos.size, hzz, hdl]
        rw [← Nat.add_mul, ← Nat.add_mul]; congr 1; omega
      have hx2 := Cx.new_ext hgd (n := n) hn ((olds ++ news).toArray ++ Builtin.zeroCells z.cells (ncap - (len + ys.length))) e i.size
      have hg3 := Good.new (es := b.es.drop off ++ ys) hgd hn ((olds ++ news).toArray ++ Builtin.zeroCells z.cells (ncap - (len + ys.length))) e i.size (by
          rw [hsize, List.length_append, hdl]; exact Nat.mul_le_mul_right _ hge) (fun e he => by
          rcases List.mem_append.1 he with h9 | h9
          · exact hdz e h9
          · exact hyz e h9) (fun i' j x hx => by
          obtain ⟨u, k1, k2⟩ := hrows i' j x hx
          refine ⟨u, k1, k2.mono (hxd.trans hx2), ?_⟩
          have hlt : i' * i.size + j < (olds ++ news).length := by
            have hil : i' < (b.es.drop off ++ ys).length := by
              unfold get2 at hx
              cases h9 : (b.es.drop off ++ ys)[i']? with
              | none => simp [h9] at hx
              | some _ => exact (List.getElem?_eq_some_iff.1 h9).1
            have hjl : j < i.size := by
              unfold get2 at hx
              cases h9 : (b.es.drop off ++ ys)[i']? with
              | none => simp [h9] at hx
              | some r =>
                simp only [h9, Option.bind_some] at hx
                have h10 := (List.getElem?_eq_some_iff.1 hx).1
                rcases List.mem_append.1 (List.mem_of_getElem? h9) with h11 | h11
                · rw [hdz r h11] at h10; exact h10
                · rw [hyz r h11] at h10; exact h10
            have : (i' + 1) * i.size ≤ (b.es.drop off ++ ys).length * i.size := Nat.mul_le_mul_right _ hil
            rw [Nat.succ_mul, List.length_append, Nat.add_mul, ← hos.size, ← hsrc.size] at this
            rw [List.length_append]; omega
          rw [Array.getElem?_append_left (by simpa using hlt)] at k1
          have hm : u ∈ olds ++ news := List.mem_of_getElem? (i := i' * i.size + j) (by simpa using k1)
          rcases List.mem_append.1 hm with h9 | h9
          · exact hos.one u h9
          · exact hsrc.one u h9)
      
      have hkill : ∀ {c' : Cx} {h' : Heap}, Good E c' h' → ∀ id, id ≠ n → Good E c' (upd (upd h' id none) n (h' n)) := by
        intro c' h' hg' id hne
        have hsub : ∀ k x, (upd (upd h' id none) n (h' n)) k = some x → h' k = some x := by
          intro k x hk
          by_cases h1 : k = n
          · subst h1; simpa using hk
          · rw [upd_ne _ _ h1] at hk
            by_cases h2 : k = id
            · subst h2; simp at hk
            · rw [upd_ne _ _ h2] at hk; exact hk
        exact ⟨fun k x hk => hg'.blk k x (hsub k x hk), fun k k' x x' r r' h1 h2 => hg'.inj k k' x x' r r' (hsub _ _ h1) (hsub _ _ h2), hg'.imm, fun k x r h1 => hg'.sep k x r (hsub _ _ h1), hg'.own, hg'.base, hg'.glob⟩
      have hin : id ≠ n := fun e => by rw [e, hn] at hp; cases hp
      refine hK _ _ (hxd.trans hx2) ?_ (new_dom _ _ _ _ _) ?_
      · have := hkill hg3 id hin
        have e1 : app [(id, none), (n, some ⟨b.es.drop off ++ ys, i.size, e⟩)] h2 = upd (upd (upd h2 n (some ⟨b.es.drop off ++ ys, i.size, e⟩)) id none) n (upd h2 n (some ⟨b.es.drop off ++ ys, i.size, e⟩) n) := by
          funext k
          simp only [app]
          by_cases h1 : k = n
          · subst h1; simp
          · rw [upd_ne _ _ h1, upd_ne _ _ h1]
            by_cases h2' : k = id
            · subst h2'; simp
            · rw [upd_ne _ _ h2', upd_ne _ _ h2', upd_ne _ _ h1]
        rw [e1]; exact this
      · have := VR.view (c := ({ c with w := c.w.drew } : Cx).new n ((olds ++ news).toArray ++ Builtin.zeroCells z.cells (ncap - (len + ys.length))) e i.size) n 0 (len + ys.length) ⟨c.w.heap.size, 0, _, i.size, false⟩ 0 ncap (by simp [Cx.new]; rfl) (.inr ⟨by simp, ?_⟩) hge
        · simpa using this
        · simp only [Nat.zero_mul, Nat.zero_add]
          rw [← hsize]; simp
end ops
end Go.V
namespace Go.V
open Go.RowKit (Below)
set_option linter.unusedSimpArgs false
set_option linter.unusedVariables false
def Cx.newW (c : Cx) (n : Nat) (w' : World) (k sz : Nat) : Cx := { c with ρ := upd c.ρ n (some ⟨c.w.heap.size, 0, k, sz, false⟩), w := w' }
theorem Good.newW {E : Env} {c : Cx} {h : Heap} (hg : Good E c h) {n : Nat} (hn : c.ρ n = none) {w' : World} {cells : Array Value} {ty : TypeId} {fz : Nat × Nat} {sz : Nat} {es : List (List V)}
    (hw1 : ∀ k, k < c.w.heap.size → w'.heap[k]? = c.w.heap[k]?) (hw2 : w'.heap[c.w.heap.size]? = some (.cells cells ty fz)) (hw3 : w'.heap.size = c.w.heap.size + 1)
    (hw4 : w'.os = c.w.os ∧ w'.tape = c.w.tape ∧ w'.output = c.w.output) (hfz : fz.1 = fz.2 ∨ (cells.size ≤ fz.1 ∧ sz = 1))
    (hlen : es.length * sz ≤ cells.size) (hsz : ∀ e ∈ es, e.length = sz) (hv : ∀ i j x, get2 es i j = some x → ∃ v, cells[i * sz + j]? = some v ∧ VR c x v ∧ v.oneCell' = true) :
    Ext c (c.newW n w' cells.size sz) ∧ Good E (c.newW n w' cells.size sz) (upd h n (some ⟨es, sz, ty⟩)) := by
  have hx : Ext c (c.newW n w' cells.size sz) := by
    refine ⟨rfl, fun id p hp => ?_, fun b hb => hb, fun b hb => hw1 b (hg.imm b hb), ⟨hw4.1, hw4.2.1, hw4.2.2, by simp only [Cx.newW, hw3]; omega, fun k hk => hw1 k (by have := hg.base; omega)⟩⟩
    have : id ≠ n := fun e => by rw [e, hn] at hp; cases hp
    simp only [Cx.newW, upd_ne _ _ this, hp]
  refine ⟨hx, fun id b hb => ?_, fun id id' b b' p p' hb hb' hp hp' he => ?_, fun b hb => ?_, fun id b p hb hp => ?_, fun id p hp => ?_, ?_, fun g cs hgc => (hg.glob g cs hgc).mono hx⟩
  · by_cases hi : id = n
    · subst hi
      simp only [upd_same, Option.some.injEq] at hb
      subst hb
      exact ⟨⟨c.w.heap.size, 0, cells.size, sz, false⟩, by simp [Cx.newW], fun _ => ⟨cells, fz, rfl, hw2, by simpa using hfz, by simp, hlen, hsz, fun i j x hx' => let ⟨v, h1, h2, h3⟩ := hv i j x hx'; ⟨v, by simpa using h1, h2.mono hx, h3⟩⟩, fun h => by simp at h⟩
    · rw [upd_ne _ _ hi] at hb
      obtain ⟨p, h1, h2, h3⟩ := hg.blk id b hb
      have hk : (c.newW n w' cells.size sz).w.heap[p.b]? = c.w.heap[p.b]? := hw1 _ (hg.own id p h1).2
      exact ⟨p, hx.rho _ _ h1, fun hm => (h2 hm).mono hx hk, fun hm => (h3 hm).mono hx hk⟩
  · by_cases hi : id = n <;> by_cases hi' : id' = n
    · rw [hi, hi']
    · subst hi
      simp only [Cx.newW, upd_same, Option.some.injEq] at hp
      simp only [Cx.newW, upd_ne _ _ hi'] at hp'
      have := (hg.own id' p' hp').2
      rw [← he, ← hp] at this; simp at this
    · subst hi'
      simp only [Cx.newW, upd_same, Option.some.injEq] at hp'
      simp only [Cx.newW, upd_ne _ _ hi] at hp
      have := (hg.own id p hp).2
      rw [he, ← hp'] at this; simp at this
    · rw [upd_ne _ _ hi] at hb
      rw [upd_ne _ _ hi'] at hb'
      simp only [Cx.newW, upd_ne _ _ hi] at hp
      simp only [Cx.newW, upd_ne _ _ hi'] at hp'
      exact hg.inj id id' b b' p p' hb hb' hp hp' he
  · have := hg.imm b hb
    simp only [Cx.newW, hw3]; omega
  · by_cases hi : id = n
    · subst hi
      simp only [Cx.newW, upd_same, Option.some.injEq] at hp
      intro hI
      have := hg.imm _ hI
      rw [← hp] at this; simp at this
    · rw [upd_ne _ _ hi] at hb
      simp only [Cx.newW, upd_ne _ _ hi] at hp
      exact hg.sep id b p hb hp
  · have hb := hg.base
    by_cases hi : id = n
    · subst hi
      simp only [Cx.newW, upd_same, Option.some.injEq] at hp
      subst hp
      simp only [Cx.newW, hw3]
      omega
    · simp only [Cx.newW, upd_ne _ _ hi] at hp
      have := hg.own id p hp
      simp only [Cx.newW, hw3]; omega
  · have hb := hg.base
    simp only [Cx.newW, hw3]; omega
section ops
variable {E : Env} {o : Oper} {t : Nat → V} {h : Heap} {n : Nat}
def bytesOf : List (List V) → Option (List Int)
  | [] => some []
  | [.int .u8 b] :: r => (bytesOf r).map (b :: ·)
  | _ => none
def bytesOfT : List (List T) → Option (List Int)
  | [] => some []
  | [.int .u8 b] :: r => (bytesOfT r).map (b :: ·)
  | _ => none
def strOf (bs : List Int) : ByteArray := ⟨(bs.map fun b => UInt8.ofNat b.toNat).toArray⟩
theorem foldl_push (ns : List Int) : ∀ (s : ByteArray), ns.foldl (fun r n => r.push (UInt8.ofNat n.toNat)) s = ⟨s.data ++ (ns.map fun n => UInt8.ofNat n.toNat).toArray⟩ := by
  induction ns with
  | nil => intro s; simp
  | cons n ns ih =>
    intro s
    simp only [List.foldl_cons, ih]
    simp [ByteArray.push]
theorem op_string {sr ds e : TypeId} {x : Operand} {ys : List (List V)} {bs : List Int} (ho : o.op = .convert sr ds x) (hsr : E.P.underlying sr = some (.slice e)) (he : E.P.underlying e = some (.int .u8)) (hds : E.P.underlying ds = some .string)
    (hy : srcV h (E.eval t x) = some ys) (hns : ∀ s, E.eval t x ≠ .str s) (hb : ys = bs.map fun b => [.int .u8 b]) : OpOK E o t h n (srcIds (E.eval t x)) false (.str (strOf bs)) [] n :=
  OpOK.value fun c a h2 hx' hg hrd => by
    have g1 := hx' x (by simp [ho, Op.operands])
    obtain ⟨news, hsrc⟩ := src_ok (sz := 1) hg g1 (by rw [srcV_congr hrd]; exact hy) (by omega) (by subst hb; intro e he; obtain ⟨b, _, rfl⟩ := List.mem_map.1 he; rfl)
    refine ⟨.string (strOf bs), ?_, .str _⟩
    have hnews : news = bs.map (Value.int .u8) := by
      have hl : news.length = bs.length := by rw [hsrc.size, hb]; simp
      refine List.ext_getElem? fun k => ?_
      by_cases hk : k < bs.length
      · obtain ⟨u, h1, h2⟩ := hsrc.get k 0 (.int .u8 bs[k]) (by simp [get2, hb, hk])
        rw [Nat.mul_one, Nat.add_zero] at h1
        rw [h1, h2.int_inv]
        simp [hk]
      · rw [List.getElem?_eq_none (by omega), List.getElem?_eq_none (by simp; omega)]
    have hyl : ys.length = bs.length := by rw [hb]; simp
    have hlen := hsrc.len c.w
    have hfirst := hsrc.first c.w rfl
    generalize hw : a.eval x = w at g1 hlen hfirst
    have hsl : ∃ A l k, w = .slice A l k := by
      clear hsrc hrd
      revert hy hns g1
      generalize E.eval t x = q
      intro hy hns g1
      cases g1 with
      | str s => exact absurd rfl (hns s)
      | nsl => exact ⟨_, _, _, rfl⟩
      | view => exact ⟨_, _, _, rfl⟩
      | sl fr nn es v hv => cases hv; exact ⟨_, _, _, rfl⟩
      | _ => simp [srcV] at hy
    obtain ⟨A, l, k, rfl⟩ := hsl
    have hll : l = ys.length := by
      simp only [Builtin.lenOf, Sem.run_pure, Result.ok.injEq] at hlen; exact hlen.1
    have hconv : (convert sr ds (.slice A l k)).run E.P c.w = .ok (.string (strOf bs)) c.w := by
      rw [run_convert_bytes_string c.w sr ds e A l k hsr he hds]
      cases A with
      | none =>
        have h0 : (Builtin.firstCells 1 ys.length (.slice none l k)).run E.P c.w = .ok #[] c.w := by simp [Builtin.firstCells]
        rw [h0] at hfirst
        simp only [Result.ok.injEq, and_true] at hfirst
        have hn0 : news = [] := by simpa using hfirst.symm
        have hbs : bs = [] := by
          have : news.length = bs.length := by rw [hnews]; simp
          rw [hn0] at this
          exact List.eq_nil_of_length_eq_zero (by simpa using this.symm)
        subst hbs
        simp [Conv.bytesToString, strOf]
        rfl
      | some A =>
        have hl : (loadCells A l).run E.P c.w = .ok (bs.map (Value.int .u8)).toArray c.w := by
          simp only [Builtin.firstCells, Nat.mul_one] at hfirst
          rw [hll, hfirst, hnews]
        rw [run_bytesToString c.w A l k bs hl, foldl_push]
        simp [strOf]
    simp [execOp, ho, hw, hconv]
theorem op_make {ty e : TypeId} {x y : Operand} {k k' : IntKind} {m : Nat} {sz by' : Nat} {zs : List V} (ho : o.op = .makeSlice ty x y) (hx : E.eval t x = .int k m) (hy : E.eval t y = .int k' m)
    (hs : elemP E.P ty = some (e, sz, by')) (hz : zeroV E.P e = some zs) (hc : zs.all V.cell = true) (h0 : sz ≠ 0) (hb : by' * m ≤ 281474976710656) (hl : m ≤ 9223372036854775807) :
    OpOK E o t h n [] false (.view n 0 m) [(n, some ⟨List.replicate m zs, sz, e⟩)] (n + 1) := by
  obtain ⟨i, z, hu, hi, hz', rfl, rfl, hzz⟩ := elemP_spec hs
  obtain ⟨z2, hzr, hzv⟩ := zeroV_run hz
  have hz2 : z2.cells.size = i.size ∧ z2 = z := by
    have h1 := hzr default
    simp only [zeroValue, typeInfo, Sem.run_bind, run_program, Result.andThen_ok, hi, Sem.run_pure, hz'] at h1
    have : z = z2 := by simpa using h1
    subst this; exact ⟨hzz, rfl⟩
  obtain ⟨hzs2, rfl⟩ := hz2
  have hzl : zs.length = i.size := by rw [hzv]; simp [hzs2]
  refine OpOK.makes (fun e he => by rw [List.eq_of_mem_replicate he]; exact hzl) fun c a h2 hx' hg => ?_
  have g1 := (by have := hx' x (by simp [ho, Op.operands]); rw [hx] at this; exact this.int_inv)
  have g2 := (by have := hx' y (by simp [ho, Op.operands]); rw [hy] at this; exact this.int_inv)
  have hb' : (i.bytes : Int) * (m : Int) ≤ 281474976710656 := by
    have h : ((i.bytes * m : Nat) : Int) ≤ 281474976710656 := by omega
    rwa [Int.natCast_mul] at h
  have hrun := run_make (P := E.P) c.w ty e i z2 hu hi hz' k k' m m (by omega) (Int.le_refl _) hb' (by omega)
  simp only [Int.toNat_natCast] at hrun
  refine ⟨madeCells z2.cells (m * i.size), .slice (some ⟨c.w.heap.size, 0, none⟩) m m, by simp [execOp, ho, g1, g2, hrun], by simp [size_madeCells], fun r j y hg2 => ?_, fun c' hc' => ?_⟩
  · unfold get2 at hg2
    cases hk : (List.replicate m zs)[r]? with
    | none => simp [hk] at hg2
    | some q =>
      have hq := List.eq_of_mem_replicate (List.mem_of_getElem? hk)
      have hkm : r < m := by have := (List.getElem?_eq_some_iff.1 hk).1; simpa using this
      subst hq
      simp only [hk, Option.bind_some] at hg2
      have hj : j < i.size := by rw [← hzl]; exact (List.getElem?_eq_some_iff.1 hg2).1
      have hlt : r * i.size + j < m * i.size := by
        have : (r + 1) * i.size ≤ m * i.size := Nat.mul_le_mul_right _ hkm
        rw [Nat.succ_mul] at this; omega
      have hmod : (r * i.size + j) % z2.cells.size = j := by
        rw [hzs2, Nat.mul_comm, Nat.mul_add_mod, Nat.mod_eq_of_lt hj]
      have hjz : j < z2.cells.size := by omega
      refine ⟨z2.cells[j], ?_, ?_⟩
      · simp [madeCells, hlt, hmod, hjz]
      · have hyv : y = V.ofConst z2.cells[j] := by
          subst hzv
          simp only [List.getElem?_map, Array.getElem?_toList] at hg2
          rw [Array.getElem?_eq_getElem hjz] at hg2
          simpa using hg2.symm
        have hvr : VR c y z2.cells[j] := by rw [hyv]; exact ofConst_ok c _
        exact ⟨hvr, hvr.oneCell ((List.all_eq_true.1 hc) y (List.mem_of_getElem? hg2))⟩
  · have := VR.view (c := c') n 0 m _ 0 m hc' (.inr ⟨by simp, by simp [size_madeCells]⟩) (Nat.le_refl _)
    simpa using this
end ops
end Go.V
namespace Go.V
open Go.RowKit (Below)
set_option linter.unusedSimpArgs false
set_option linter.unusedVariables false
section ops
variable {E : Env} {o : Oper} {t : Nat → V} {h : Heap} {n : Nat}
def nilV : V → Option Bool
  | .nsl => some true
  | .view _ _ _ => some false
  | .sl _ true _ => some false
  | .sl _ false (_ :: _) => some false
  | _ => none
theorem nilV_spec {c : Cx} {x : V} {v : Value} {b : Bool} (h : VR c x v) (hn : nilV x = some b) : ∃ a l k, v = .slice a l k ∧ a.isNone = b := by
  cases h with
  | nsl => simp only [nilV, Option.some.injEq] at hn; subst hn; exact ⟨_, _, _, rfl, rfl⟩
  | view id off len p o cap hp ho hl => simp only [nilV, Option.some.injEq] at hn; subst hn; exact ⟨_, _, _, rfl, rfl⟩
  | sl fr nn es v h =>
    cases h with
    | sl _ _ a len cap sz rd hlen hcap hnil =>
      cases a with
      | some A =>
        refine ⟨_, _, _, rfl, ?_⟩
        unfold nilV at hn
        split at hn <;> simp_all
      | none =>
        obtain ⟨h1, h2, h3⟩ := hnil rfl
        subst h1; subst h2
        simp [nilV] at hn
  | _ => simp [nilV] at hn
theorem op_isnil {op : BinOp} {ty ty' e : TypeId} {x : Operand} {m k : Nat} {b : Bool} (ho : o.op = .binOp op ty x (.const (.slice none m k)) ty') (hop : op = .eql ∨ op = .neq) (hu : E.P.underlying ty = some (.slice e))
    (hx : nilV (E.eval t x) = some b) : OpOK E o t h n [] false (.bool (if op = .eql then b else !b)) [] n :=
  OpOK.value fun c ac h2 hx' hg _ => by
    have h1 := hx' x (by simp [ho, Op.operands])
    obtain ⟨a, l, k', hv, hb⟩ := nilV_spec h1 hx
    have hc : ac.eval (.const (.slice none m k)) = .slice none m k := rfl
    rcases hop with rfl | rfl
    · refine ⟨.bool b, ?_, .bool _⟩
      simp only [execOp, ho, hv, hc, eqGuard_at_slice, Sem.run_bind, Sem.run_pure, Result.andThen_ok, Lib.run_eql_slice_nil _ _ _ _ _ _ _ _ hu, hb]
    · refine ⟨.bool (!b), ?_, .bool _⟩
      simp only [execOp, ho, hv, hc, eqGuard_at_slice, Sem.run_bind, Sem.run_pure, Result.andThen_ok, run_neq_slice_nil_any _ _ _ _ _ _ _ _ hu, hb]
def eqFieldsV (P : Program) (rec : TypeId → V → V → Option Bool) (xs ys : List V) : List Field → Option Bool
  | [] => some true
  | f :: fs => if f.name = "_" then none else
    match rowP P f.type with
    | some (r, k) => if f.offset + k ≤ xs.length ∧ f.offset + k ≤ ys.length then
        match partV xs f.offset k r, partV ys f.offset k r with
        | some a, some b => match rec f.type a b, eqFieldsV P rec xs ys fs with
          | some r1, some r2 => some (r1 && r2)
          | _, _ => none
        | _, _ => none
      else none
    | none => none
def eqV (P : Program) : Nat → TypeId → V → V → Option Bool
  | 0, _, _, _ => none
  | d + 1, ty, x, y => match P.underlying ty, x, y with
    | some .bool, .bool a, .bool b => some (a == b)
    | some (.int _), .int k a, .int k' b => if k = k' then some (a == b) else none
    | some .string, .str a, .str b => some (a.toList == b.toList)
    | some (.struct fs), .agg xs, .agg ys => if P.stoodInHeld ty then none else eqFieldsV P (eqV P d) xs ys fs.toList
    | _, _, _ => none
end ops
inductive Ex where
  | norm
  | exit (id : Nat)
  | ret
def Ex.out : Ex → Exit
  | .norm => .normal
  | .exit id => .exit id
  | .ret => .ret
def Exec (E : Env) (sz : Nat) (k : Code) (t : Nat → V) (h : Heap) (n : Nat) (x : Ex) (t' : Nat → V) (h' : Heap) (n' : Nat) : Prop :=
  n ≤ n' ∧ ∀ (c : Cx) (a : Act), Slots sz t c a → Good E c h → (∀ id, n ≤ id → c.ρ id = none) →
    k.wp E.P (fun e a' w' => e = x.out ∧ ∃ c' : Cx, c'.w = w' ∧ Ext c c' ∧ Slots sz t' c' a' ∧ Good E c' h' ∧ ∀ id, c'.ρ id ≠ none → c.ρ id ≠ none ∨ (n ≤ id ∧ id < n')) a c.w
theorem free_of_dom {c c' : Cx} {n n' : Nat} (hn : n ≤ n') (hf : ∀ id, n ≤ id → c.ρ id = none) (hd : ∀ id, c'.ρ id ≠ none → c.ρ id ≠ none ∨ (n ≤ id ∧ id < n')) : ∀ id, n' ≤ id → c'.ρ id = none := by
  intro id hid
  cases hc : c'.ρ id with
  | none => rfl
  | some p =>
    rcases hd id (by simp [hc]) with h1 | h1
    · exact absurd (hf id (by omega)) h1
    · omega
theorem dom_trans {c c1 c2 : Cx} {n n1 n2 : Nat} (h1 : n ≤ n1) (h2 : n1 ≤ n2) (d1 : ∀ id, c1.ρ id ≠ none → c.ρ id ≠ none ∨ (n ≤ id ∧ id < n1)) (d2 : ∀ id, c2.ρ id ≠ none → c1.ρ id ≠ none ∨ (n1 ≤ id ∧ id < n2)) :
    ∀ id, c2.ρ id ≠ none → c.ρ id ≠ none ∨ (n ≤ id ∧ id < n2) := by
  intro id hid
  rcases d2 id hid with h | h
  · rcases d1 id h with h' | h'
    · exact .inl h'
    · exact .inr (by omega)
  · exact .inr (by omega)
section exec
variable {E : Env} {sz : Nat} {t t1 t2 : Nat → V} {h h1 h2 : Heap} {n n1 n2 : Nat} {x : Ex}
theorem Exec.skip : Exec E sz .skip t h n .norm t h n := ⟨Nat.le_refl _, fun c a hs hg hf => wp_skip ⟨rfl, c, rfl, Ext.refl c, hs, hg, fun id h => .inl h⟩⟩
theorem Exec.ret : Exec E sz .ret t h n .ret t h n := ⟨Nat.le_refl _, fun c a hs hg hf => wp_ret ⟨rfl, c, rfl, Ext.refl c, hs, hg, fun id h => .inl h⟩⟩
theorem Exec.exit (id : Nat) : Exec E sz (.exit id) t h n (.exit id) t h n := ⟨Nat.le_refl _, fun c a hs hg hf => wp_exit ⟨rfl, c, rfl, Ext.refl c, hs, hg, fun id h => .inl h⟩⟩
theorem Exec.seq {k1 k2 : Code} (e1 : Exec E sz k1 t h n .norm t1 h1 n1) (e2 : Exec E sz k2 t1 h1 n1 x t2 h2 n2) : Exec E sz (.seq k1 k2) t h n x t2 h2 n2 := by
  refine ⟨Nat.le_trans e1.1 e2.1, fun c a hs hg hf => ?_⟩
  refine wp_seq (wp_mono (e1.2 c a hs hg hf) ?_)
  rintro e a' w' ⟨rfl, c', rfl, hx, hs', hg', hf'⟩
  refine wp_mono (e2.2 c' a' hs' hg' (free_of_dom e1.1 hf hf')) ?_
  rintro e a2 w2 ⟨he, c2, hw, hx2, hs2, hg2, hd2⟩
  exact ⟨he, c2, hw, hx.trans hx2, hs2, hg2, dom_trans e1.1 e2.1 hf' hd2⟩
theorem Exec.seq_out {k1 k2 : Code} (e1 : Exec E sz k1 t h n x t1 h1 n1) (hx : x ≠ .norm) : Exec E sz (.seq k1 k2) t h n x t1 h1 n1 := by
  refine ⟨e1.1, fun c a hs hg hf => ?_⟩
  refine wp_seq (wp_mono (e1.2 c a hs hg hf) ?_)
  rintro e a' w' ⟨rfl, r⟩
  cases x with
  | norm => exact absurd rfl hx
  | exit id => exact ⟨rfl, r⟩
  | ret => exact ⟨rfl, r⟩
theorem Exec.cond {o : Operand} {k1 k2 : Code} {b : Bool} (hb : E.eval t o = .bool b) (e : Exec E sz (if b then k1 else k2) t h n x t1 h1 n1) : Exec E sz (.cond o k1 k2) t h n x t1 h1 n1 := by
  refine ⟨e.1, fun c a hs hg hf => ?_⟩
  have h1 := eval_ok hs hg o
  rw [hb] at h1
  exact wp_cond h1.bool_inv (e.2 c a hs hg hf)
theorem Exec.cond_t {o : Operand} {k1 k2 : Code} (hb : E.eval t o = .bool true) (e : Exec E sz k1 t h n x t1 h1 n1) : Exec E sz (.cond o k1 k2) t h n x t1 h1 n1 := Exec.cond hb e
theorem Exec.cond_f {o : Operand} {k1 k2 : Code} (hb : E.eval t o = .bool false) (e : Exec E sz k2 t h n x t1 h1 n1) : Exec E sz (.cond o k1 k2) t h n x t1 h1 n1 := Exec.cond hb e
def Ex.inBlock (id : Nat) : Ex → Ex
  | .exit i => if i = id then .norm else .exit i
  | e => e
theorem Exec.block {id : Nat} {k : Code} {y : Ex} (e : Exec E sz k t h n y t1 h1 n1) (hy : y.inBlock id = x) : Exec E sz (.block id k) t h n x t1 h1 n1 := by
  refine ⟨e.1, fun c a hs hg hf => ?_⟩
  subst hy
  refine wp_block (wp_mono (e.2 c a hs hg hf) ?_)
  rintro e a' w' ⟨rfl, r⟩
  cases y with
  | norm => exact ⟨rfl, r⟩
  | ret => exact ⟨rfl, r⟩
  | exit i =>
    by_cases hi : i = id
    · subst hi
      simp only [Exit.inBlock, Ex.out, Ex.inBlock, if_true]
      exact ⟨trivial, r⟩
    · simp only [Exit.inBlock, Ex.out, Ex.inBlock, hi, if_false]
      exact ⟨trivial, r⟩
inductive Loops (E : Env) (sz : Nat) (k : Code) : (Nat → V) → Heap → Nat → Ex → (Nat → V) → Heap → Nat → Prop
  | last {t : Nat → V} {h : Heap} {n : Nat} {x : Ex} {t1 : Nat → V} {h1 : Heap} {n1 : Nat} (e : Exec E sz k t h n x t1 h1 n1) (hx : x ≠ .norm) : Loops E sz k t h n x t1 h1 n1
  | more {t : Nat → V} {h : Heap} {n : Nat} {x : Ex} {t1 : Nat → V} {h1 : Heap} {n1 : Nat} {t2 : Nat → V} {h2 : Heap} {n2 : Nat} (e : Exec E sz k t h n .norm t1 h1 n1) (r : Loops E sz k t1 h1 n1 x t2 h2 n2) : Loops E sz k t h n x t2 h2 n2
theorem rounds_mono {P : Program} {k : Code} {Q Q' : Exit → Act → World → Prop} (hq : ∀ e a w, Q e a w → Q' e a w) : ∀ (m : Nat) (a : Act) (w : World), Code.rounds P k Q m a w → Code.rounds P k Q' m a w
  | 0, _, _, h => h
  | m + 1, a, w, h => by
    rw [rounds_succ] at h ⊢
    refine wp_mono h ?_
    intro e a' w' q
    cases e with
    | normal => exact rounds_mono hq m a' w' q
    | _ => exact hq _ _ _ q
theorem Loops.le {k : Code} {t : Nat → V} {h : Heap} {n : Nat} {x : Ex} {t1 : Nat → V} {h1 : Heap} {n1 : Nat} (r : Loops E sz k t h n x t1 h1 n1) : n ≤ n1 := by
  induction r with
  | last e _ => exact e.1
  | more e _ ih => exact Nat.le_trans e.1 ih
theorem Exec.loop {k : Code} (r : Loops E sz k t h n x t1 h1 n1) : Exec E sz (.loop k) t h n x t1 h1 n1 := by
  refine ⟨r.le, fun c a hs hg hf => ?_⟩
  have key : ∀ {t : Nat → V} {h : Heap} {n : Nat} {x : Ex} {t1 : Nat → V} {h1 : Heap} {n1 : Nat}, Loops E sz k t h n x t1 h1 n1 → ∃ m, ∀ (c : Cx) (a : Act), Slots sz t c a → Good E c h → (∀ id, n ≤ id → c.ρ id = none) →
      Code.rounds E.P k (fun e a' w' => e = x.out ∧ ∃ c' : Cx, c'.w = w' ∧ Ext c c' ∧ Slots sz t1 c' a' ∧ Good E c' h1 ∧ ∀ id, c'.ρ id ≠ none → c.ρ id ≠ none ∨ (n ≤ id ∧ id < n1)) m a c.w := by
    intro t h n x t1 h1 n1 r
    induction r with
    | last e hx =>
      refine ⟨1, fun c a hs hg hf => ?_⟩
      rw [rounds_succ]
      refine wp_mono (e.2 c a hs hg hf) ?_
      rintro e a' w' ⟨rfl, r⟩
      rename_i y _ _ _
      cases y with
      | norm => exact absurd rfl hx
      | exit id => exact ⟨rfl, r⟩
      | ret => exact ⟨rfl, r⟩
    | more e r ih =>
      obtain ⟨m, hm⟩ := ih
      refine ⟨m + 1, fun c a hs hg hf => ?_⟩
      rw [rounds_succ]
      refine wp_mono (e.2 c a hs hg hf) ?_
      rintro e' a' w' ⟨rfl, c', rfl, hx, hs', hg', hf'⟩
      have := hm c' a' hs' hg' (free_of_dom e.1 hf hf')
      refine rounds_mono ?_ m _ _ this
      rintro e2 a2 w2 ⟨he, c2, hw, hx2, hs2, hg2, hd2⟩
      exact ⟨he, c2, hw, hx.trans hx2, hs2, hg2, dom_trans e.1 r.le hf' hd2⟩
  obtain ⟨m, hm⟩ := key r
  exact wp_loop_rounds m (hm c a hs hg hf)
theorem Exec.region {id : Nat} {ops : Array Oper} {es : List Ef} (r : Runs E sz ops ops.toList t h n es t1 h1 n1) : Exec E sz (.region id ops false) t h n .norm t1 h1 n1 := by
  refine ⟨r.le, fun c a hs hg hf => ?_⟩
  exact wp_region_list (r.seq c a hs hg hf fun c' a' hx hs' hg' hf' => ⟨rfl, c', rfl, hx, hs', hg', hf'⟩)
theorem Exec.draw {id : Nat} {ops : Array Oper} {es : List Ef} (bl : List Nat) (rs : List (Nat × Nat)) (hm : E.P.follows .mixedOrders = true) (hst : statOK ops bl = true) (r : Runs E sz ops ops.toList t h n es t1 h1 n1)
    (hres : residE ops.size bl es = rs) (hcl : ClearL es rs) : Exec E sz (.region id ops true) t h n .norm t1 h1 n1 := by
  refine ⟨r.le, fun c a hs hg hf => ?_⟩
  refine wp_region_any hm ?_
  have hx : Ext c { c with w := c.w.drew } := Ext.same c rfl rfl rfl rfl
  have hno : inS (Array.replicate ops.size false) = fun _ => false := by
    funext j; unfold inS
    by_cases hj : j < ops.size <;> simp [hj]
  have hT : foldT ((ops.toList.map (·.dst)).zip es) (inS (Array.replicate ops.size false)) t = t := by
    rw [hno]
    have : ∀ (l : List (Option Nat × Ef)) (t : Nat → V), foldT l (fun _ => false) t = t := by
      intro l; induction l with
      | nil => intro t; rfl
      | cons y l ih => intro t; obtain ⟨_, _⟩ := y; simp only [foldT]; exact ih t
    exact this _ _
  have hH : foldH ((ops.toList.map (·.dst)).zip es) (inS (Array.replicate ops.size false)) h = h := by
    rw [hno]
    have : ∀ (l : List (Option Nat × Ef)) (t : Heap), foldH l (fun _ => false) t = t := by
      intro l; induction l with
      | nil => intro t; rfl
      | cons y l ih => intro t; obtain ⟨_, _⟩ := y; simp only [foldH]; exact ih t
    exact this _ _
  exact draw_any bl rs hst r hres hcl { c with w := c.w.drew } hf (fun c' a' hx' hs' hg' hf' => ⟨rfl, c', rfl, hx.trans hx', hs', hg', hf'⟩) ops.size (Array.replicate ops.size false) { c with w := c.w.drew } a (by simp)
    (fun j hj => by rw [hno] at hj; cases hj) (Ext.refl _) (by rw [hT]; exact hs.mono hx) (by rw [hH]; exact hg.drew) (fun id hid => .inl hid) (by unfold unl; exact Nat.le_trans List.count_le_length (by simp))
end exec
end Go.V
namespace Go.V
open Go.RowKit (Below)
set_option linter.unusedSimpArgs false
set_option linter.unusedVariables false
inductive A where
  | one (x : T)
  | agg (xs : List T)
def A.toV (fr : Bool) : A → V
  | .one x => x.toV fr
  | .agg xs => .agg (xs.map (T.toV fr))
def retV (fr : Bool) : List A → V
  | [a] => a.toV fr
  | az => .tup (az.map (A.toV fr))
inductive AR (I : Nat → Prop) (w : World) : A → Value → Prop
  | one (x : T) (v : Value) (h : TR I w x v) : AR I w (.one x) v
  | agg (xs : List T) (vs : Array Value) (hl : xs.length = vs.size) (h : ∀ (i : Nat) (x : T) (v : Value), xs[i]? = some x → vs[i]? = some v → TR I w x v) : AR I w (.agg xs) (.agg vs)
inductive RR (I : Nat → Prop) (w : World) : List A → Value → Prop
  | one (a : A) (v : Value) (h : AR I w a v) : RR I w [a] v
  | tup (az : List A) (vs : Array Value) (hne : az.length ≠ 1) (hl : az.length = vs.size) (h : ∀ (i : Nat) (a : A) (v : Value), az[i]? = some a → vs[i]? = some v → AR I w a v) : RR I w az (.tuple vs)
theorem AR.toV {c : Cx} {fr : Bool} {a : A} {v : Value} (h : AR (c.J fr) c.w a v) : VR c (a.toV fr) v := by
  cases h with
  | one x v h => exact h.toV
  | agg xs vs hl h =>
    refine .agg _ _ (by simpa using hl) fun i x v h1 h2 => ?_
    rw [List.getElem?_map] at h1
    cases hx : xs[i]? with
    | none => simp [hx] at h1
    | some y =>
      simp only [hx, Option.map_some, Option.some.injEq] at h1
      subst h1
      exact (h i y v hx h2).toV
theorem AR.mono {I I' : Nat → Prop} {w w' : World} {x : A} {v : Value} (h : AR I w x v) (hi : ∀ b, I b → I' b) (hk : ∀ b, I b → w'.heap[b]? = w.heap[b]?) : AR I' w' x v := by
  cases h with
  | one x v h => exact .one x v (h.mono hi hk)
  | agg xs vs hl h => exact .agg xs vs hl fun i x v h1 h2 => (h i x v h1 h2).mono hi hk
theorem RR.mono {I I' : Nat → Prop} {w w' : World} {x : List A} {v : Value} (h : RR I w x v) (hi : ∀ b, I b → I' b) (hk : ∀ b, I b → w'.heap[b]? = w.heap[b]?) : RR I' w' x v := by
  cases h with
  | one a v h => exact .one a v (h.mono hi hk)
  | tup ms vs hne hl h => exact .tup _ vs hne hl fun i a v h1 h2 => (h i a v h1 h2).mono hi hk
theorem RR.toV {c : Cx} {fr : Bool} {ls : List A} {v : Value} (h : RR (c.J fr) c.w ls v) : VR c (retV fr ls) v := by
  cases h with
  | one a v h => exact h.toV
  | tup ms vs hne hl h =>
    have : retV fr ls = .tup (ls.map (A.toV fr)) := by
      unfold retV
      split
      · simp at hne
      · rfl
    rw [this]
    refine .tup _ _ (by simpa using hl) fun i x v h1 h2 => ?_
    rw [List.getElem?_map] at h1
    cases hx : ls[i]? with
    | none => simp [hx] at h1
    | some y =>
      simp only [hx, Option.map_some, Option.some.injEq] at h1
      subst h1
      exact (h i y v hx h2).toV
def callP (P : Program) (f : FuncId) : Bool :=
  match P.funcs[f]? with
  | some fn => fn.body.isSome && fn.name != "runtime.NumGoroutine"
  | none => false
theorem run_callFunc {P : Program} {w : World} {f : FuncId} (h : callP P f = true) (args : Array Value) : (callFunc f args).run P w = .ok (.enter f args) w := by
  unfold callP at h
  cases hf : P.funcs[f]? with
  | none => simp [hf] at h
  | some fn =>
    simp only [hf, Bool.and_eq_true, bne_iff_ne, ne_eq] at h
    obtain ⟨h1, h2⟩ := h
    have h3 : fn.body.isNone = false := by cases hb : fn.body <;> simp_all
    have h4 : fn.body ≠ none := by intro h; simp [h] at h1
    simp [callFunc, hf, h2, h3, h4]
def Pure (E : Env) (f : FuncId) (args res : List A) : Prop :=
  callP E.P f = true ∧ ∀ (I : Nat → Prop) (w : World) (vs : Array Value), (∀ b, I b → b < w.heap.size) →
    (∀ g cs, E.G g = some cs → VR ⟨fun _ => none, I, w.heap.size, w⟩ (.iptr false cs) (.pointer (some ⟨g, 0, none⟩))) →
    args.length = vs.size → (∀ (i : Nat) (a : A) (v : Value), args[i]? = some a → vs[i]? = some v → AR I w a v) →
    Calls E.P f vs w fun e w' => ∃ v, e = .returned v ∧ Below w.heap.size w w' ∧ RR (fun b => w.heap.size ≤ b ∧ b < w'.heap.size) w' res v
inductive Snap (h : Heap) (ids : List Nat) (r : Bool) : V → T → Prop
  | bool (b : Bool) : Snap h ids r (.bool b) (.bool b)
  | int (k : IntKind) (n : Int) : Snap h ids r (.int k n) (.int k n)
  | str (s : ByteArray) : Snap h ids r (.str s) (.str s)
  | nilp : Snap h ids r .nilp .nilp
  | nilf : Snap h ids r .nilf .nilf
  | nsl : Snap h ids r .nsl .nsl
  | sl (fr nn : Bool) (es : List (List T)) (hr : r = true → fr = true ∨ es = []) : Snap h ids r (.sl fr nn es) (.sl nn es)
  | nslW : Snap h ids r .nsl (.sl false [])
  | weak (x : V) (es : List (List T)) (hs : Snap h ids r x (.sl true es)) : Snap h ids r x (.sl false es)
  | view (id off len : Nat) (b : Blk) (es : List (List T)) (hid : id ∈ ids) (hb : h id = some b) (hle : off + len ≤ b.es.length) (hl : es.length = len)
      (hz : ∀ (i : Nat) (e : List V) (e' : List T), ((b.es.drop off).take len)[i]? = some e → es[i]? = some e' → e.length = e'.length)
      (hs : ∀ (i j : Nat) (x : V) (y : T), get2 ((b.es.drop off).take len) i j = some x → get2 es i j = some y → Snap h ids r x y) : Snap h ids r (.view id off len) (.sl true es)
theorem Snap.congr {h h2 : Heap} {ids : List Nat} {r : Bool} {x : V} {y : T} (hs : Snap h ids r x y) (he : ∀ id ∈ ids, h2 id = h id) : Snap h2 ids r x y := by
  induction hs with
  | bool b => exact .bool b
  | int k n => exact .int k n
  | str s => exact .str s
  | nilp => exact .nilp
  | nilf => exact .nilf
  | nsl => exact .nsl
  | nslW => exact .nslW
  | sl fr nn es hr => exact .sl fr nn es hr
  | weak x es hs ih => exact .weak x es ih
  | view id off len b es hid hb hle hl hz hs ih => exact .view id off len b es hid (by rw [he id hid]; exact hb) hle hl hz ih
def Seen (c : Cx) (h : Heap) (r : Bool) (b : Nat) : Prop := (c.I b ∨ ∃ id x p, h id = some x ∧ c.ρ id = some p ∧ p.b = b) ∧ (r = true → c.B ≤ b)
theorem Snap.ok {E : Env} {c : Cx} {h : Heap} (hg : Good E c h) {ids : List Nat} {r : Bool} {x : V} {y : T} (hs : Snap h ids r x y) : ∀ {v : Value}, VR c x v → TR (Seen c h r) c.w y v := by
  induction hs with
  | bool b => intro v hv; rw [hv.bool_inv]; exact .bool b
  | int k n => intro v hv; rw [hv.int_inv]; exact .int k n
  | str s => intro v hv; rw [hv.str_inv]; exact .str s
  | nilp => intro v hv; rw [hv.nilp_inv]; exact .nilp
  | nilf => intro v hv; rw [hv.nilf_inv]; exact .nilf
  | nsl => intro v hv; rw [hv.nsl_inv]; exact .nsl
  | nslW =>
    intro v hv; rw [hv.nsl_inv]
    exact .sl false [] none 0 0 0 (fun _ _ => undef) rfl (Nat.le_refl _) (fun _ => ⟨rfl, rfl, rfl⟩) (fun A hA => by cases hA) (by simp) (fun A _ _ _ hA => by cases hA) (fun i j c hc => by simp [get2] at hc)
  | weak x es hs ih =>
    intro v hv
    have := ih hv
    cases this with
    | sl _ _ a len cap sz rd hlen hcap hnil hI hsz hrd hsub => exact .sl false es a len cap sz rd hlen hcap (fun h => nomatch (hnil h).1) hI hsz hrd hsub
  | sl fr nn es hr =>
    intro v hv
    cases hv with
    | sl _ _ _ _ hv =>
      by_cases hes : es = []
      · subst hes
        cases hv with
        | sl _ _ a len cap sz rd hlen hcap hnil hI hsz hrd hsub => exact .sl nn [] a len cap sz rd hlen hcap hnil (fun A hA hne => absurd rfl hne) hsz hrd (fun i j c hc => by simp [get2] at hc)
      · refine hv.mono (fun b hb => ⟨.inl hb.1, fun hr' => ?_⟩) (fun _ _ => rfl)
        rcases hr hr' with h1 | h1
        · exact hb.2 h1
        · exact absurd h1 hes
  | view id off len b es hid hb hle hl hz hs ih =>
    intro v hv
    cases hv with
    | view _ _ _ p o cap hp ho hlc hpm =>
      obtain ⟨cells, fz, q2, q3, q4, q5, q6, q7, q8⟩ := hg.cells hb hp hpm
      have hdl : ((b.es.drop off).take len).length = len := by simp; omega
      by_cases hlen0 : len = 0
      · subst hlen0
        have : es = [] := List.eq_nil_of_length_eq_zero hl
        subst this
        exact .sl true [] _ _ _ 0 (fun _ _ => undef) rfl hlc (fun h => by cases h) (fun A hA hne => absurd rfl hne) (by simp) (fun A i j c hA hc => by simp [get2] at hc) (fun i j c hc => by simp [get2] at hc)
      · obtain ⟨e1, e2⟩ := ho.resolve_left (by omega)
        have hget : ∀ i j y, get2 es i j = some y → ∃ x u, get2 ((b.es.drop off).take len) i j = some x ∧ cells[o + i * p.sz + j]? = some u ∧ VR c x u := by
          intro i j y hy
          unfold get2 at hy
          cases hi : es[i]? with
          | none => simp [hi] at hy
          | some e' =>
            simp only [hi, Option.bind_some] at hy
            have hil : i < len := by rw [← hl]; exact (List.getElem?_eq_some_iff.1 hi).1
            have hlt : off + i < b.es.length := by omega
            have he : ((b.es.drop off).take len)[i]? = some b.es[off + i] := by
              rw [List.getElem?_take_of_lt hil, List.getElem?_drop]; simp [hlt]
            have hjl : j < (b.es[off + i]).length := by
              rw [hz i _ e' he hi]; exact (List.getElem?_eq_some_iff.1 hy).1
            have hx : get2 ((b.es.drop off).take len) i j = some (b.es[off + i])[j] := by simp [get2, he, hjl]
            obtain ⟨u, g1, g2, g3⟩ := q8 (off + i) j (b.es[off + i])[j] (by simp [get2, hlt, hjl])
            refine ⟨_, u, hx, ?_, g2⟩
            rw [← g1, e1, q2]
            congr 1
            rw [Nat.add_mul]; omega
        refine .sl true es _ _ _ p.sz (fun i j => (cells[o + i * p.sz + j]?).getD undef) hl.symm hlc (fun h => by cases h) (fun A hA hne => ?_) (fun e' he' => ?_) (fun A i j y hA hy => ?_) (fun i j y hy => ?_)
        · simp only [Option.some.injEq] at hA
          subst hA
          exact ⟨rfl, .inr ⟨id, b, p, hb, hp, rfl⟩, fun _ => (hg.own id p hp).1⟩
        · obtain ⟨i, hi⟩ := List.getElem?_of_mem he'
          have hil : i < len := by rw [← hl]; exact (List.getElem?_eq_some_iff.1 hi).1
          have hlt : off + i < b.es.length := by omega
          have he : ((b.es.drop off).take len)[i]? = some b.es[off + i] := by
            rw [List.getElem?_take_of_lt hil, List.getElem?_drop]; simp [hlt]
          rw [← hz i _ e' he hi, q7 _ (List.getElem_mem hlt), q2]
        · simp only [Option.some.injEq] at hA
          subst hA
          obtain ⟨x, u, g1, g2, g3⟩ := hget i j y hy
          simp [World.cell?, q3, g2]
        · obtain ⟨x, u, g1, g2, g3⟩ := hget i j y hy
          rw [g2]
          exact ih i j x y g1 hy g3
inductive SnapA (h : Heap) (ids : List Nat) (r : Bool) : V → A → Prop
  | one (x : V) (y : T) (hs : Snap h ids r x y) : SnapA h ids r x (.one y)
  | agg (xs : List V) (ys : List T) (hl : xs.length = ys.length) (hs : ∀ (i : Nat) (x : V) (y : T), xs[i]? = some x → ys[i]? = some y → Snap h ids r x y) : SnapA h ids r (.agg xs) (.agg ys)
theorem SnapA.congr {h h2 : Heap} {ids : List Nat} {r : Bool} {x : V} {y : A} (hs : SnapA h ids r x y) (he : ∀ id ∈ ids, h2 id = h id) : SnapA h2 ids r x y := by
  cases hs with
  | one x y hs => exact .one x y (hs.congr he)
  | agg xs ys hl hs => exact .agg xs ys hl fun i x y h1 h2 => (hs i x y h1 h2).congr he
theorem SnapA.ok {E : Env} {c : Cx} {h : Heap} (hg : Good E c h) {ids : List Nat} {r : Bool} {x : V} {y : A} (hs : SnapA h ids r x y) {v : Value} (hv : VR c x v) : AR (Seen c h r) c.w y v := by
  cases hs with
  | one x y hs => exact .one y v (hs.ok hg hv)
  | agg xs ys hl hs =>
    obtain ⟨vs, rfl, h1, h2⟩ := hv.agg_inv
    refine .agg ys vs (by omega) fun i y v hy hv => ?_
    have hlt : i < xs.length := by rw [hl]; exact (List.getElem?_eq_some_iff.1 hy).1
    exact (hs i xs[i] y (by simp [hlt]) hy).ok hg (h2 i _ v (by simp [hlt]) hv)
def calleeV (E : Env) (t : Nat → V) (f : Operand) : Option (FuncId × List V) :=
  match E.eval t f with
  | .clo g caps => some (g, caps)
  | _ => none
section ops
variable {E : Env} {o : Oper} {t : Nat → V} {h : Heap} {n : Nat}
theorem run_call {c : Cx} {a : Act} {fo : Operand} {args : Array Operand} {tys : Array TypeId} {f : FuncId} {caps : List V} (ho : o.op = .call { callee := .value fo, args := args, argTypes := tys }) (hc : E.eval t fo = .clo f caps)
    (hx : ∀ x ∈ o.op.operands, VR c (E.eval t x) (a.eval x)) (hp : callP E.P f = true) :
    ∃ cs : Array Value, (execOp a.eval o).run E.P c.w = .ok (.enter f (args.map a.eval ++ cs)) c.w ∧ caps.length = cs.size ∧ ∀ (i : Nat) (x : V) (v : Value), caps[i]? = some x → cs[i]? = some v → VR c x v := by
  have h1 := hx fo (by simp [ho, Op.operands, Call.operands])
  rw [hc] at h1
  generalize hw : a.eval fo = w at h1
  cases h1 with
  | clo _ _ vs hl hh =>
    refine ⟨vs, ?_, hl, hh⟩
    simp [execOp, ho, hw, resolve, Deferred.ofValue, invoke, run_callFunc hp]
theorem op_call {fo : Operand} {args : Array Operand} {tys : Array TypeId} {f : FuncId} {ids : List Nat} {az rs : List A} (ho : o.op = .call { callee := .value fo, args := args, argTypes := tys }) (hc : E.eval t fo = .clo f [])
    (hl : args.size = az.length) (hs : ∀ (i : Nat) (x : Operand) (a : A), args[i]? = some x → az[i]? = some a → SnapA h ids false (E.eval t x) a) (hpure : Pure E f az rs) :
    OpOK E o t h n ids false (retV true rs) [] n := by
  intro c a h2 K Q hd hx hg hrd _ hf hK
  obtain ⟨cs, hrun, hcl, _⟩ := run_call ho hc hx hpure.1
  have hcs : cs = #[] := by
    have : cs.size = 0 := by simpa using hcl.symm
    exact Array.eq_empty_of_size_eq_zero this
  subst hcs
  simp only [Array.append_empty] at hrun
  unfold Oper.wp
  rw [hrun, Oper.upon_enter]
  have hlive : ∀ b, Seen c h2 false b → b < c.w.heap.size := by
    rintro b ⟨h1 | ⟨id, x, p, _, h4, rfl⟩, _⟩
    · exact hg.imm b h1
    · exact (hg.own id p h4).2
  refine Calls.mono (hpure.2 (Seen c h2 false) c.w (args.map a.eval) hlive (fun g cs hgc => ?_) (by simp [hl]) (fun i a' v ha hv => ?_)) ?_
  · have := hg.glob g cs hgc
    cases this with
    | iptr _ _ b off rd hI hrd' hsub =>
      refine .iptr false cs g 0 rd ⟨⟨.inl hI.1, by simp⟩, by simp⟩ hrd' fun j x hj => (hsub j x hj).mono (fun b hb => ⟨⟨.inl hb.1, by simp⟩, by simp⟩) fun _ _ => rfl
  · rw [Array.getElem?_map] at hv
    cases hx' : args[i]? with
    | none => simp [hx'] at hv
    | some x =>
      simp only [hx', Option.map_some, Option.some.injEq] at hv
      subst hv
      exact ((hs i x a' hx' ha).congr hrd).ok hg (hx x (by simp [ho, Op.operands, Call.operands]; exact .inr (Array.mem_of_getElem? hx')))
  · rintro e w' ⟨v, rfl, hb, hr⟩
    have hlt : ∀ k, k < c.w.heap.size → w'.heap[k]? = c.w.heap[k]? := fun k hk => hb.block k hk
    have hx2 : Ext c { c with I := fun b => c.I b ∨ (c.w.heap.size ≤ b ∧ b < w'.heap.size), w := w' } :=
      ⟨rfl, fun _ _ h => h, fun b h => .inl h, fun b hb' => hlt b (hg.imm b hb'), hb.mono hg.base⟩
    refine hK { c with I := fun b => c.I b ∨ (c.w.heap.size ≤ b ∧ b < w'.heap.size), w := w' } v hx2 ?_ (fun id h => .inl h) ?_
    · show Good E _ (app [] h2)
      refine ⟨fun id b hb' => ?_, hg.inj, fun b hb' => ?_, fun id b p hb' hp' hI => ?_, fun id p hp' => ?_, Nat.le_trans hg.base hb.size, fun g cs hgc => (hg.glob g cs hgc).mono hx2⟩
      · obtain ⟨p, q1, q2, q3⟩ := hg.blk id b hb'
        have hk : w'.heap[p.b]? = c.w.heap[p.b]? := hlt _ (hg.own id p q1).2
        exact ⟨p, q1, fun hm => (q2 hm).mono hx2 hk, fun hm => (q3 hm).mono hx2 hk⟩
      · have := hb.size
        rcases hb' with h1 | h1
        · have := hg.imm b h1; simp only; omega
        · exact h1.2
      · rcases hI with h1 | h1
        · exact hg.sep id b p hb' hp' h1
        · have := (hg.own id p hp').2; omega
      · have := hg.own id p hp'
        have := hb.size
        simp only; omega
    · refine (hr.mono (fun b hb' => ?_) (fun _ _ => rfl)).toV
      exact ⟨.inr hb', fun _ => Nat.le_trans hg.base hb'.1⟩
end ops
inductive ResV (P : Program) (t : Nat → V) (h : Heap) : ResultVar → V → Prop
  | tmp (i : Nat) : ResV P t h (.tmp i) (t i)
  | row (a : Nat) (ty : TypeId) (id i j k : Nat) (b : Blk) (cs : List V) (ha : t a = .ptr id i j) (hb : h id = some b) (hi : b.es[i]? = some cs) (hr : rowP P ty = some (true, k)) (hl : j + k ≤ cs.length) :
      ResV P t h (.cell a ty) (.agg ((cs.drop j).take k))
  | cell (a : Nat) (ty : TypeId) (id i j k : Nat) (b : Blk) (cs : List V) (v : V) (ha : t a = .ptr id i j) (hb : h id = some b) (hi : b.es[i]? = some cs) (hr : rowP P ty = some (false, k)) (hl : cs[j]? = some v) :
      ResV P t h (.cell a ty) v
def resOne (tmps : Array Value) : ResultVar → Sem Value
  | .tmp t => pure (tmps.getD t undef)
  | .cell p ty => do loadVar ty (← asAddr (tmps.getD p undef))
theorem results_eq (fn : Func) (tmps : Array Value) : results fn tmps = (do let vs ← fn.results.mapM (resOne tmps); pure (if h : vs.size = 1 then vs[0] else .tuple vs)) := by
  have : (fun r => match r with | .tmp t => (pure (tmps.getD t undef) : Sem Value) | .cell a t => do loadVar t (← asAddr (tmps.getD a undef))) = resOne tmps := by
    funext r; cases r <;> rfl
  rw [← this]
  rfl
theorem ResV.run {E : Env} {c : Cx} {h : Heap} (hg : Good E c h) {sz : Nat} {t : Nat → V} {a : Act} (hs : Slots sz t c a) {r : ResultVar} {x : V} (hr : ResV E.P t h r x) :
    ∃ v, (resOne a.tmps r).run E.P c.w = .ok v c.w ∧ VR c x v := by
  cases hr with
  | tmp i => exact ⟨_, rfl, hs.tmps i⟩
  | row p ty id i j k b cs ha hb hi hr hl =>
    have h1 := hs.tmps p
    rw [ha] at h1
    obtain ⟨pl, ⟨hp, hpm⟩, hv⟩ := h1.ptr_inv
    obtain ⟨d, hu, hd, hs'⟩ := rowP_spec hr
    obtain ⟨vs, hvl, hrange, hvr, _⟩ := hg.range hb hp hpm hi j k hl
    refine ⟨.agg vs.toArray, ?_, .agg _ _ (by simp [hvl]; omega) fun m y u h3 h4 => hvr m y u h3 (by simpa using h4)⟩
    have := run_loadVar_mid (P := E.P) c.w pl.b (pl.o + i * pl.sz + j) ty vs d hrange hu hd (by rw [hs', hvl])
    simp [resOne, hv, asAddr, this]
  | cell p ty id i j k b cs v ha hb hi hr hl =>
    have h1 := hs.tmps p
    rw [ha] at h1
    obtain ⟨pl, ⟨hp, hpm⟩, hv⟩ := h1.ptr_inv
    obtain ⟨d, hu, hd, hs'⟩ := rowP_spec hr
    have hlt : j + 1 ≤ cs.length := (List.getElem?_eq_some_iff.1 hl).1
    obtain ⟨vs, hvl, hrange, hvr, _⟩ := hg.range hb hp hpm hi j 1 hlt
    have hlt' : 0 < vs.length := by omega
    refine ⟨vs[0], ?_, hvr 0 x _ ?_ (by simp [hlt'])⟩
    · have := run_load_cell (P := E.P) (w := c.w) (b := pl.b) (o := pl.o + i * pl.sz + j) (v := vs[0]) hu hd (by have := hrange 0 vs[0] (by simp [hlt']); simpa using this)
      simp only [Instr.loadAt, Instr.sureAddr, Sem.run_bind, Sem.run_pure, Result.andThen_ok] at this
      simp only [resOne, hv, asAddr, Sem.run_bind, Sem.run_pure, Result.andThen_ok, this]
    · rw [List.getElem?_take_of_lt (by omega), List.getElem?_drop]; simpa using hl
inductive ResL (P : Program) (t : Nat → V) (h : Heap) : List ResultVar → List V → Prop
  | nil : ResL P t h [] []
  | cons (r : ResultVar) (rs : List ResultVar) (x : V) (xs : List V) (h1 : ResV P t h r x) (h2 : ResL P t h rs xs) : ResL P t h (r :: rs) (x :: xs)
theorem ResL.run {E : Env} {c : Cx} {h : Heap} (hg : Good E c h) {sz : Nat} {t : Nat → V} {a : Act} (hs : Slots sz t c a) {rs : List ResultVar} {xs : List V} (hr : ResL E.P t h rs xs) :
    ∃ vs : List Value, (rs.mapM (resOne a.tmps)).run E.P c.w = .ok vs c.w ∧ xs.length = vs.length ∧
      ∀ (i : Nat) (x : V) (v : Value), xs[i]? = some x → vs[i]? = some v → VR c x v := by
  induction hr with
  | nil => exact ⟨[], by simp, rfl, by simp⟩
  | cons r rs x xs h1 h2 ih =>
    obtain ⟨v, g1, g2⟩ := h1.run hg hs
    obtain ⟨vs, g3, g4, g5⟩ := ih
    refine ⟨v :: vs, ?_, by simp [g4], fun i y u hy hu => ?_⟩
    · rw [List.mapM_cons]
      simp only [Sem.run_bind]
      rw [g1]
      simp only [Result.andThen_ok, g3, Sem.run_pure]
    · cases i with
      | zero =>
        simp only [List.getElem?_cons_zero, Option.some.injEq] at hy hu
        subst hy; subst hu; exact g2
      | succ i => exact g5 i y u (by simpa using hy) (by simpa using hu)
theorem results_run {E : Env} {c : Cx} {h : Heap} (hg : Good E c h) {sz : Nat} {t : Nat → V} {a : Act} (hs : Slots sz t c a) {fn : Func} {xs : List V} (hr : ResL E.P t h fn.results.toList xs) :
    ∃ vs : List Value, (results fn a.tmps).run E.P c.w = .ok (if h : vs.toArray.size = 1 then vs.toArray[0] else .tuple vs.toArray) c.w ∧ xs.length = vs.length ∧
      ∀ (i : Nat) (x : V) (v : Value), xs[i]? = some x → vs[i]? = some v → VR c x v := by
  obtain ⟨vs, h1, h2, h3⟩ := hr.run hg hs
  refine ⟨vs, ?_, h2, h3⟩
  rw [results_eq, Sem.run_bind, Array.mapM_eq_mapM_toList, Sem.run_map, h1]
  rfl
theorem Pure.of_exec {E : Env} {f : FuncId} {fn : Func} {k : Code} {args res : List A} {x : Ex} {t' : Nat → V} {h' : Heap} {n' : Nat} {xs : List V} {ids : List Nat} (hf : E.P.funcs[f]? = some fn) (hb : fn.body = some k) (hn : args.length ≤ fn.ntmps)
    (he : Exec E fn.ntmps k (fun i => ((args.map (A.toV false))[i]?).getD .unk) (fun _ => none) 0 x t' h' n') (hx : x = .norm ∨ x = .ret) (hr : ResL E.P t' h' fn.results.toList xs)
    (hl : xs.length = res.length) (hs : ∀ (i : Nat) (x : V) (a : A), xs[i]? = some x → res[i]? = some a → SnapA h' ids true x a) (hnm : (fn.name != "runtime.NumGoroutine") = true) : Pure E f args res := by
  refine ⟨by simp only [callP, hf, hb, hnm, Option.isSome_some, Bool.and_self], fun I w vs hI hgl hal har => ?_⟩
  refine calls_of_wp hf hb ?_
  let c0 : Cx := ⟨fun _ => none, I, w.heap.size, w⟩
  have hg0 : Good E c0 (fun _ => none) := ⟨fun id b h => by simp at h, fun id id' b b' p p' h => by simp at h, hI, fun id b p h => by simp at h, fun id p h => by simp [c0] at h, Nat.le_refl _, hgl⟩
  have hs0 : Slots fn.ntmps (fun i => ((args.map (A.toV false))[i]?).getD .unk) c0 { tmps := vs ++ Array.replicate (fn.ntmps - vs.size) undef, defers := [] } := by
    refine ⟨by simp; omega, fun i => ?_, rfl⟩
    by_cases hi : i < args.length
    · have hiv : i < vs.size := by omega
      have h1 : (vs ++ Array.replicate (fn.ntmps - vs.size) undef).getD i undef = vs[i] := by
        simp [Array.getElem?_append_left hiv, hiv]
      rw [h1]
      have h2 : ((args.map (A.toV false))[i]?).getD .unk = args[i].toV false := by simp [hi]
      rw [h2]
      refine (AR.mono (har i args[i] vs[i] (by simp [hi]) (by simp [hiv])) (fun b hb => ⟨hb, by simp⟩) (fun _ _ => rfl)).toV
    · have h2 : ((args.map (A.toV false))[i]?).getD .unk = .unk := by simp [hi]
      rw [h2]; exact .unk _
  refine wp_mono (he.2 c0 _ hs0 hg0 (fun _ _ => rfl)) ?_
  rintro e a' w' ⟨rfl, c', rfl, hxt, hs', hg', hd'⟩
  obtain ⟨us, h1, h2, h3⟩ := results_run hg' hs' hr
  have hB : c'.B = w.heap.size := hxt.B
  have hlive : ∀ b, Seen c' h' true b → w.heap.size ≤ b ∧ b < c'.w.heap.size := by
    rintro b ⟨h4 | ⟨id, y, p, _, h5, rfl⟩, h6⟩
    · exact ⟨by have := h6 rfl; omega, hg'.imm b h4⟩
    · exact ⟨by have := h6 rfl; omega, (hg'.own id p h5).2⟩
  have hbelow : Below w.heap.size w c'.w := hxt.below
  have key : RR (fun b => w.heap.size ≤ b ∧ b < c'.w.heap.size) c'.w res (if h : us.toArray.size = 1 then us.toArray[0] else .tuple us.toArray) := by
    have hulen : us.length = res.length := by omega
    have hone : ∀ (i : Nat) (a : A) (v : Value), res[i]? = some a → us[i]? = some v → AR (fun b => w.heap.size ≤ b ∧ b < c'.w.heap.size) c'.w a v := by
      intro i a v ha hv
      have hlt : i < xs.length := by rw [hl]; exact (List.getElem?_eq_some_iff.1 ha).1
      exact ((hs i xs[i] a (by simp [hlt]) ha).ok hg' (h3 i xs[i] v (by simp [hlt]) hv)).mono hlive (fun _ _ => rfl)
    split
    · rename_i hsz
      have hul : us.length = 1 := by simpa using hsz
      have hrl : res.length = 1 := by omega
      match res, us, hrl, hul, hone with
      | [a], [u], _, _, hone => exact .one a u (hone 0 a u rfl rfl)
    · rename_i hsz
      refine .tup res _ (by simp at hsz; omega) (by simp; omega) fun i a v ha hv => hone i a v ha (by simpa using hv)
  rcases hx with rfl | rfl
  · exact ⟨hs'.defers, _, h1, _, rfl, hbelow, key⟩
  · exact ⟨hs'.defers, _, h1, _, rfl, hbelow, key⟩
attribute [irreducible] Pure
end Go.V
