/- A logic over abstract states: append, make, conversions of strings. No conditions. -/
import Derived.Test.YtknnniaoboaghaaVg
import Derived.Lib.ConvBytes
import Derived.Laws.BytesString
namespace Go.V
open Go.RowKit (Below)
set_option linter.unusedSimpArgs false
set_option linter.unusedVariables false

/-- The elements of what is appended. -/
def srcV (h : Heap) : V → Option (List (List V))
  | .view id off len => match h id with
    | some b => if off + len ≤ b.es.length then some ((b.es.drop off).take len) else none
    | none => none
  | .sl fr _ es => some (es.map (·.map (T.toV fr)))
  | .nsl => some []
  | .str s => some (s.data.toList.map fun b => [.int .u8 b.toNat])
  | _ => none

def srcIds : V → List Nat
  | .view id _ _ => [id]
  | _ => []

theorem srcV_congr {h h2 : Heap} {x : V} (he : ∀ id ∈ srcIds x, h2 id = h id) : srcV h2 x = srcV h x := by
  cases x with
  | view id off len => simp only [srcV]; rw [he id (by simp [srcIds])]
  | _ => rfl

structure SrcOK (P : Program) (c : Cx) (v : Value) (ys : List (List V)) (sz : Nat) (news : List Value) : Prop where
  len : ∀ w, (Builtin.lenOf v).run P w = .ok ys.length w
  size : news.length = ys.length * sz
  first : ∀ w, w.heap = c.w.heap → (Builtin.firstCells sz ys.length v).run P w = .ok news.toArray w
  one : ∀ u ∈ news, u.oneCell' = true
  get : ∀ i j x, get2 ys i j = some x → ∃ u, news[i * sz + j]? = some u ∧ VR c x u

theorem div_mod {sz k m : Nat} (hz : sz ≠ 0) (hk : k < m * sz) : k / sz < m ∧ k % sz < sz ∧ k / sz * sz + k % sz = k := by
  refine ⟨(Nat.div_lt_iff_lt_mul (by omega)).2 hk, Nat.mod_lt _ (by omega), ?_⟩
  rw [Nat.mul_comm]; exact Nat.div_add_mod k sz

theorem div_mod_of {sz i j : Nat} (hj : j < sz) : (i * sz + j) / sz = i ∧ (i * sz + j) % sz = j := by
  have h0 : 0 < sz := by omega
  constructor
  · rw [Nat.mul_comm, Nat.mul_add_div h0, Nat.div_eq_of_lt hj]; omega
  · rw [Nat.mul_comm, Nat.mul_add_mod, Nat.mod_eq_of_lt hj]

theorem src_ok {E : Env} {c : Cx} {h : Heap} (hg : Good E c h) {x : V} {v : Value} (hv : VR c x v) {ys : List (List V)} {sz : Nat} (hs : srcV h x = some ys) (hz : sz ≠ 0) (hy : ∀ e ∈ ys, e.length = sz) :
    ∃ news, SrcOK E.P c v ys sz news := by
  cases hv with
  | nsl =>
    simp only [srcV, Option.some.injEq] at hs
    subst hs
    exact ⟨[], fun w => by simp [Builtin.lenOf], by simp, fun w _ => by simp [Builtin.firstCells], by simp, by simp [get2]⟩
  | str s =>
    simp only [srcV, Option.some.injEq] at hs
    subst hs
    by_cases hs0 : s.data.toList = []
    · refine ⟨[], fun w => ?_, by simp [hs0], fun w _ => ?_, by simp, by simp [get2, hs0]⟩
      · simp only [Builtin.lenOf, Sem.run_pure, hs0]
        have : s.size = 0 := by
          have : s.data.toList.length = 0 := by rw [hs0]; rfl
          simpa using this
        rw [this]; rfl
      · have h1 : s.data = #[] := by
          have : s.data.toList.toArray = #[] := by rw [hs0]
          simpa using this
        simp [Builtin.firstCells, h1]
    · have hsz : sz = 1 := by
        obtain ⟨b, hb⟩ := List.exists_mem_of_ne_nil _ hs0
        have := hy [.int .u8 b.toNat] (List.mem_map.2 ⟨b, hb, rfl⟩)
        simpa using this.symm
      subst hsz
      refine ⟨s.data.toList.map fun b => Value.int .u8 b.toNat, fun w => ?_, by simp, fun w _ => ?_, ?_, fun i j x hx => ?_⟩
      · simp [Builtin.lenOf]
      · have hx : (s.extract 0 s.data.size).data = s.data := by
          have : s.extract 0 s.size = s := ByteArray.extract_zero_size
          have h2 : s.data.size = s.size := rfl
          rw [h2, this]
        simp only [Builtin.firstCells, List.length_map, Array.length_toList, Sem.run_pure]
        rw [hx, List.map_toArray.symm]
      · intro u hu
        obtain ⟨b, _, rfl⟩ := List.mem_map.1 hu
        rfl
      · unfold get2 at hx
        rw [List.getElem?_map] at hx
        cases hb : s.data.toList[i]? with
        | none => simp [hb] at hx
        | some b =>
          simp only [hb, Option.map_some, Option.bind_some] at hx
          cases j with
          | zero =>
            simp only [List.getElem?_cons_zero, Option.some.injEq] at hx
            subst hx
            exact ⟨.int .u8 b.toNat, by rw [Nat.mul_one, Nat.add_zero, List.getElem?_map, hb]; rfl, .int _ _⟩
          | succ j => simp at hx
  | sl fr nn es v hv =>
    simp only [srcV, Option.some.injEq] at hs
    subst hs
    cases hv with
    | sl _ _ A len cap sz' rd hlen hcap hnil hI hsz hrd hsub =>
      subst hlen
      by_cases hes : es = []
      · subst hes
        refine ⟨[], fun w => by simp [Builtin.lenOf], by simp, fun w _ => ?_, by simp, by simp [get2]⟩
        cases A <;> simp [Builtin.firstCells, loadCells, loadCellsFrom]
      · have hzz : sz' = sz := by
          obtain ⟨e, he⟩ := List.exists_mem_of_ne_nil _ hes
          have := hy (e.map (T.toV fr)) (List.mem_map.2 ⟨e, he, rfl⟩)
          rw [List.length_map, hsz e he] at this
          exact this
        subst hzz
        cases A with
        | none => exact absurd (hnil rfl).2.1 hes
        | some A =>
          obtain ⟨b, off, sp⟩ := A
          obtain ⟨h1, h2⟩ := hI _ rfl hes
          simp only at h1 h2
          subst h1
          have hg2 : ∀ k, k < es.length * sz' → ∃ y, get2 es (k / sz') (k % sz') = some y := by
            intro k hk
            obtain ⟨k1, k2, k3⟩ := div_mod hz hk
            refine ⟨es[k / sz'][k % sz']'(by rw [hsz _ (List.getElem_mem k1)]; exact k2), ?_⟩
            simp [get2, k1, k2, hsz _ (List.getElem_mem k1)]
          refine ⟨(List.range (es.length * sz')).map fun k => rd (k / sz') (k % sz'), fun w => by simp [Builtin.lenOf], by simp, fun w hw => ?_, fun u hu => ?_, fun i j x hx => ?_⟩
          · refine run_firstCells_some (P := E.P) w sz' _ ⟨b, off, none⟩ es.length cap _ (by simp) fun k u hu => ?_
            have hk : k < es.length * sz' := by
              have := (List.getElem?_eq_some_iff.1 hu).1
              simpa using this
            simp only [List.getElem?_map, List.getElem?_range hk, Option.map_some, Option.some.injEq] at hu
            subst hu
            obtain ⟨y, hy'⟩ := hg2 k hk
            have := hrd _ _ _ _ rfl hy'
            obtain ⟨k1, k2, k3⟩ := div_mod hz hk
            rw [Addr.add_mid, cell_of_block (w := c.w) (by rw [hw])]
            rw [← this]
            simp only [Nat.add_assoc, k3]
          · obtain ⟨k, hk, rfl⟩ := List.mem_map.1 hu
            obtain ⟨y, hy'⟩ := hg2 k (List.mem_range.1 hk)
            exact (hsub _ _ _ hy').toV.oneCell (by cases y <;> rfl)
          · unfold get2 at hx
            rw [List.getElem?_map] at hx
            cases he : es[i]? with
            | none => simp [he] at hx
            | some e =>
              simp only [he, Option.map_some, Option.bind_some, List.getElem?_map] at hx
              cases hj : e[j]? with
              | none => simp [hj] at hx
              | some y =>
                simp only [hj, Option.map_some, Option.some.injEq] at hx
                subst hx
                have hil : i < es.length := (List.getElem?_eq_some_iff.1 he).1
                have hjl : j < sz' := by rw [← hsz e (List.mem_of_getElem? he)]; exact (List.getElem?_eq_some_iff.1 hj).1
                have hlt : i * sz' + j < es.length * sz' := by
                  have : (i + 1) * sz' ≤ es.length * sz' := Nat.mul_le_mul_right _ hil
                  rw [Nat.succ_mul] at this; omega
                obtain ⟨q1, q2⟩ := div_mod_of (i := i) hjl
                refine ⟨rd i j, by simp [List.getElem?_map, List.getElem?_range hlt, q1, q2], (hsub i j y (by simp [get2, he, hj])).toV⟩
  | view id off len p o cap hp ho hl hpm =>
    simp only [srcV] at hs
    cases hb : h id with
    | none => simp [hb] at hs
    | some b =>
      simp only [hb] at hs
      split at hs
      · rename_i hle
        simp only [Option.some.injEq] at hs
        subst hs
        obtain ⟨cells, fz, q2, q3, q4, q5, q6, q7, q8⟩ := hg.cells hb hp hpm
        have hyl : ((b.es.drop off).take len).length = len := by simp; omega
        by_cases hlen0 : len = 0
        · subst hlen0
          exact ⟨[], fun w => by simp [Builtin.lenOf], by simp, fun w _ => by simp [Builtin.firstCells, loadCells, loadCellsFrom], by simp, by simp [get2]⟩
        · have hbz : b.sz = sz := by
            have hlt : off < b.es.length := by omega
            have hm : b.es[off] ∈ (b.es.drop off).take len := by
              refine List.mem_of_getElem? (i := 0) ?_
              rw [List.getElem?_take_of_lt (by omega), List.getElem?_drop]
              simp [hlt]
            have := hy _ hm
            rw [q7 _ (List.getElem_mem hlt)] at this
            exact this
          obtain ⟨e1, e2⟩ := ho.resolve_left (by omega)
          rw [q2, hbz] at e1
          have hg2 : ∀ k, k < len * sz → ∃ y u, get2 b.es (off + k / sz) (k % sz) = some y ∧ cells[o + k]? = some u ∧ VR c y u ∧ u.oneCell' = true := by
            intro k hk
            obtain ⟨k1, k2, k3⟩ := div_mod hz hk
            have hlt : off + k / sz < b.es.length := by omega
            have hel := q7 _ (List.getElem_mem hlt)
            have hlt2 : k % sz < (b.es[off + k / sz]).length := by rw [hel, hbz]; exact k2
            have hy2 : get2 b.es (off + k / sz) (k % sz) = some (b.es[off + k / sz])[k % sz] := by simp [get2, hlt, hlt2]
            obtain ⟨u, g1, g2, g3⟩ := q8 _ _ _ hy2
            refine ⟨_, u, hy2, ?_, g2, g3⟩
            rw [← g1, hbz, e1]
            congr 1
            rw [Nat.add_mul]; omega
          refine ⟨(List.range (len * sz)).map fun k => (cells[o + k]?).getD undef, fun w => by simp [Builtin.lenOf, hyl], by simp [hyl], fun w hw => ?_, fun u hu => ?_, fun i j x hx => ?_⟩
          · rw [hyl]
            refine run_firstCells_some (P := E.P) w sz _ ⟨p.b, o, none⟩ len cap _ (by simp) fun k u hu => ?_
            have hk : k < len * sz := by
              have := (List.getElem?_eq_some_iff.1 hu).1
              simpa using this
            simp only [List.getElem?_map, List.getElem?_range hk, Option.map_some, Option.some.injEq] at hu
            subst hu
            obtain ⟨y, u, _, g2, _, _⟩ := hg2 k hk
            rw [Addr.add_mid]
            simp [World.cell?, hw, q3, g2]
          · obtain ⟨k, hk, rfl⟩ := List.mem_map.1 hu
            obtain ⟨y, u, _, g2, _, g4⟩ := hg2 k (List.mem_range.1 hk)
            rw [g2]; exact g4
          · unfold get2 at hx
            have hil : i < len := by
              cases hi : ((b.es.drop off).take len)[i]? with
              | none => simp [hi] at hx
              | some _ => have := (List.getElem?_eq_some_iff.1 hi).1; omega
            rw [List.getElem?_take_of_lt hil, List.getElem?_drop] at hx
            have hlt : off + i < b.es.length := by omega
            simp only [hlt, List.getElem?_eq_getElem, Option.bind_some] at hx
            have hjl : j < sz := by
              have := (List.getElem?_eq_some_iff.1 hx).1
              rw [q7 _ (List.getElem_mem hlt), hbz] at this; exact this
            have hlt2 : i * sz + j < len * sz := by
              have : (i + 1) * sz ≤ len * sz := Nat.mul_le_mul_right _ hil
              rw [Nat.succ_mul] at this; omega
            obtain ⟨y, u, g1, g2, g3, _⟩ := hg2 (i * sz + j) hlt2
            obtain ⟨d1, d2⟩ := div_mod_of (i := i) hjl
            rw [d1, d2] at g1
            have : y = x := by
              simp only [get2, hlt, List.getElem?_eq_getElem, Option.bind_some] at g1
              rw [g1] at hx; exact Option.some.inj hx
            subst this
            exact ⟨u, by simp [List.getElem?_map, List.getElem?_range hlt2, g2], g3⟩
      · cases hs
  | _ => simp [srcV] at hs

/-! Append. -/

theorem run_append_room2 {P : Program} {w : World} {t tx ty e : TypeId} {dx : TypeDesc} {i : TypeInfo} (ht : P.underlying t = some (.slice e)) (htx : P.underlying tx = some dx) (hdx : dx = .string ∨ ∃ e', dx = .slice e')
    (hi : P.info? e = some i) {b o sLen sCap n : Nat} {x : Value} {news : List Value} (hlx : (Builtin.lenOf x).run P w = .ok n w) (hf : (Builtin.firstCells i.size n x).run P w = .ok news.toArray w)
    (hroom : sLen + n ≤ sCap) (hth : w.there b (o + sLen * i.size) news.length) (h1 : ∀ u ∈ news, u.oneCell' = true) :
    (Builtin.append_ #[t, tx] ty #[.slice (some ⟨b, o, none⟩) sLen sCap, x]).run P w = .ok (.slice (some ⟨b, o, none⟩) (sLen + n) sCap) (w.setCells b (o + sLen * i.size) news) := by
  have hst := run_storeCells_cells (P := P) b (o + sLen * i.size) news 0 w (fun j hj => by simpa using (hth j hj).1) (fun j hj => by simpa using (hth j hj).2) h1
  simp only [Nat.add_zero] at hst
  rcases hdx with rfl | ⟨e', rfl⟩
  · simp [Builtin.append_, run_underlying ht, run_underlying htx, sizeOf, typeInfo, hi, hlx, hroom, hf, Addr.add_mid, hst]
  · simp [Builtin.append_, run_underlying ht, run_underlying htx, sizeOf, typeInfo, hi, hlx, hroom, hf, Addr.add_mid, hst]

theorem run_append_grow2 {P : Program} {w : World} {t tx ty e : TypeId} {dx : TypeDesc} {i : TypeInfo} {z : Value} (ht : P.underlying t = some (.slice e)) (htx : P.underlying tx = some dx) (hdx : dx = .string ∨ ∃ e', dx = .slice e')
    (hi : P.info? e = some i) (hz : i.zero = some z) {base : Option Addr} {sLen sCap n : Nat} {x : Value} {olds news : List Value} (hlx : (Builtin.lenOf x).run P w = .ok n w)
    (hfo : (Builtin.firstCells i.size sLen (.slice base sLen sCap)).run P w.drew = .ok olds.toArray w.drew)
    (hf : (Builtin.firstCells i.size n x).run P w.drew = .ok news.toArray w.drew) (hg : sCap < sLen + n) (h63 : ((sLen + n : Nat) : Int) ≤ 9223372036854775807)
    (hfit : Builtin.nextslicecap (sLen + n) sCap * i.bytes ≤ 281474976710656) :
    (Builtin.append_ #[t, tx] ty #[.slice base sLen sCap, x]).run P w = .ok (.slice (some ⟨w.heap.size, 0, none⟩) (sLen + n) (grownCap w (sLen + n) sCap e))
        (w.drew.alloc (.cells ((olds ++ news).toArray ++ Builtin.zeroCells z.cells (grownCap w (sLen + n) sCap e - (sLen + n))) e)) := by
  have hn : ¬ (sLen + n ≤ sCap) := by omega
  have h63' : ¬ (9223372036854775807 < ((sLen : Int) + (n : Int))) := by omega
  have h48' : ¬ (281474976710656 < Builtin.nextslicecap (sLen + n) sCap * i.bytes) := by omega
  have ha : (olds ++ news).toArray = olds.toArray ++ news.toArray := by simp
  rcases hdx with rfl | ⟨e', rfl⟩
  · simp [Builtin.append_, run_underlying ht, run_underlying htx, sizeOf, typeInfo, zeroValue, hi, hz, hlx, hn, h63', h48', Question.forced, hfo, hf, newRow, grownCap, ha, Array.append_assoc, -List.append_toArray]
  · simp [Builtin.append_, run_underlying ht, run_underlying htx, sizeOf, typeInfo, zeroValue, hi, hz, hlx, hn, h63', h48', Question.forced, hfo, hf, newRow, grownCap, ha, Array.append_assoc, -List.append_toArray]

/-- Of a slice's type: its elements' type, the cells of one, its bytes; the zero element is known. -/
def elemP (P : Program) (ty : TypeId) : Option (TypeId × Nat × Nat) :=
  match P.underlying ty with
  | some (.slice e) => match P.info? e with
    | some i => match i.zero with
      | some z => if z.cells.size = i.size then some (e, i.size, i.bytes) else none
      | none => none
    | none => none
  | _ => none

theorem elemP_spec {P : Program} {ty e : TypeId} {sz by' : Nat} (h : elemP P ty = some (e, sz, by')) : ∃ i z, P.underlying ty = some (.slice e) ∧ P.info? e = some i ∧ i.zero = some z ∧ i.size = sz ∧ i.bytes = by' ∧ z.cells.size = sz := by
  unfold elemP at h
  split at h
  · rename_i e' hu
    split at h
    · rename_i i hi
      split at h
      · rename_i z hz
        split at h
        · rename_i hzz
          simp only [Option.some.injEq, Prod.mk.injEq] at h
          obtain ⟨rfl, rfl, rfl⟩ := h
          exact ⟨i, z, hu, hi, hz, rfl, rfl, hzz⟩
        · cases h
      · cases h
    · cases h
  · cases h

/-- What may be appended: a slice's type, or a string's. -/
def srcP (P : Program) (tx : TypeId) : Bool :=
  match P.underlying tx with
  | some .string | some (.slice _) => true
  | _ => false

theorem srcP_spec {P : Program} {tx : TypeId} (h : srcP P tx = true) : ∃ d, P.underlying tx = some d ∧ (d = .string ∨ ∃ e', d = .slice e') := by
  unfold srcP at h
  split at h
  · rename_i hu; exact ⟨_, hu, .inl rfl⟩
  · rename_i hu; exact ⟨_, hu, .inr ⟨_, rfl⟩⟩
  · cases h

theorem Good.drew {E : Env} {c : Cx} {h : Heap} (hg : Good E c h) : Good E { c with w := c.w.drew } h := hg.same (Ext.same c rfl rfl rfl rfl) rfl

section ops
variable {E : Env} {o : Oper} {t : Nat → V} {h : Heap} {n : Nat}

/-- The rows of a new block that takes what a slice held and what is appended. -/
theorem grown_rows {c : Cx} {xs ys : List (List V)} {olds news : List Value} {rest : Array Value} {sz : Nat} (hx : olds.length = xs.length * sz) (hy : news.length = ys.length * sz)
    (hxe : ∀ e ∈ xs, e.length = sz) (hye : ∀ e ∈ ys, e.length = sz)
    (hxg : ∀ i j x, get2 xs i j = some x → ∃ u, olds[i * sz + j]? = some u ∧ VR c x u) (hyg : ∀ i j x, get2 ys i j = some x → ∃ u, news[i * sz + j]? = some u ∧ VR c x u) :
    ∀ i j x, get2 (xs ++ ys) i j = some x → ∃ u, ((olds ++ news).toArray ++ rest)[i * sz + j]? = some u ∧ VR c x u := by
  intro i j x hg
  have hlt : ∀ (l : List (List V)) (i j : Nat) (x : V), (∀ e ∈ l, e.length = sz) → get2 l i j = some x → i < l.length ∧ j < sz := by
    intro l i j x he hg
    unfold get2 at hg
    cases hi : l[i]? with
    | none => simp [hi] at hg
    | some e =>
      simp only [hi, Option.bind_some] at hg
      refine ⟨(List.getElem?_eq_some_iff.1 hi).1, ?_⟩
      rw [← he e (List.mem_of_getElem? hi)]
      exact (List.getElem?_eq_some_iff.1 hg).1
  by_cases hi : i < xs.length
  · have hg' : get2 xs i j = some x := by
      unfold get2 at hg ⊢
      rw [List.getElem?_append_left hi] at hg; exact hg
    obtain ⟨u, h1, h2⟩ := hxg i j x hg'
    refine ⟨u, ?_, h2⟩
    have hk : i * sz + j < olds.length := (List.getElem?_eq_some_iff.1 h1).1
    rw [Array.getElem?_append_left (by simp; omega)]
    simp only [List.getElem?_toArray]
    rw [List.getElem?_append_left hk]; exact h1
  · have hg' : get2 ys (i - xs.length) j = some x := by
      unfold get2 at hg ⊢
      rw [List.getElem?_append_right (by omega)] at hg; exact hg
    obtain ⟨u, h1, h2⟩ := hyg _ j x hg'
    refine ⟨u, ?_, h2⟩
    have hk : (i - xs.length) * sz + j < news.length := (List.getElem?_eq_some_iff.1 h1).1
    have e1 : i * sz + j - olds.length = (i - xs.length) * sz + j := by
      rw [hx, Nat.sub_mul]
      have : xs.length * sz ≤ i * sz := Nat.mul_le_mul_right _ (by omega)
      omega
    have e2 : olds.length ≤ i * sz + j := by
      rw [hx]
      have : xs.length * sz ≤ i * sz := Nat.mul_le_mul_right _ (by omega)
      omega
    rw [Array.getElem?_append_left (by simp; omega)]
    simp only [List.getElem?_toArray]
    rw [List.getElem?_append_right e2, e1]; exact h1

/-- To a nil slice: something is appended. -/
theorem op_append_nil {ty tx e : TypeId} {x y : Operand} {sz by' : Nat} {ys : List (List V)} (ho : o.op = .call { callee := .builtin .append, args := #[x, y], argTypes := #[ty, tx] })
    (hx : E.eval t x = .nsl) (hs : elemP E.P ty = some (e, sz, by')) (htx : srcP E.P tx = true) (h0 : sz ≠ 0) (hy : srcV h (E.eval t y) = some ys) (hyz : ∀ c ∈ ys, c.length = sz) (hne : 0 < ys.length)
    (hb : ys.length * by' ≤ 140737488355328) (hl : ys.length ≤ 9223372036854775807) :
    OpOK E o t h n (srcIds (E.eval t y)) false (.view n 0 ys.length) [(n, some ⟨ys, sz, e⟩)] (n + 1) := by
  intro c a h2 K Q hd hx' hg hrd _ hf hK
  have g1 := (by have := hx' x (by simp [ho, Op.operands, Call.operands]); rw [hx] at this; exact this.nsl_inv)
  have g2 := hx' y (by simp [ho, Op.operands, Call.operands])
  obtain ⟨i, z, hu, hi, hz, rfl, rfl, hzz⟩ := elemP_spec hs
  obtain ⟨d, htu, hdi⟩ := srcP_spec htx
  obtain ⟨news, hsrc⟩ := src_ok hg g2 (by rw [srcV_congr hrd]; exact hy) h0 hyz
  have hn : c.ρ n = none := hf n (Nat.le_refl _) (by omega)
  have hxd : Ext c { c with w := c.w.drew } := Ext.same c rfl rfl rfl rfl
  have hgd := hg.drew
  have hrun := run_append_grow2 (P := E.P) (w := c.w) (ty := o.type) (base := none) (sLen := 0) (sCap := 0) (x := a.eval y) (olds := []) (news := news) hu htu hdi hi hz (hsrc.len _) (by simp [Builtin.firstCells]) (hsrc.first _ rfl)
    (by omega) (by omega) (growslice_fits (by omega) (by rw [Nat.zero_add]; exact hb))
  have hge := grownCap_ge c.w (0 + ys.length) 0 e
  generalize hcap : grownCap c.w (0 + ys.length) 0 e = cap at hrun hge
  simp only [Nat.zero_add, List.nil_append] at hrun hge
  have hex : (execOp a.eval o).run E.P c.w = .ok (.value (.slice (some ⟨c.w.heap.size, 0, none⟩) ys.length cap)) (({ c with w := c.w.drew } : Cx).new n (news.toArray ++ Builtin.zeroCells z.cells (cap - ys.length)) e i.size).w := by
    simp [execOp, ho, g1, resolve, invoke, builtin, hrun, Cx.new]
  unfold Oper.wp
  rw [hex, Oper.upon_value]
  have hrows := grown_rows (c := c) (xs := []) (ys := ys) (olds := []) (news := news) (rest := Builtin.zeroCells z.cells (cap - ys.length)) (sz := i.size) (by simp) hsrc.size (by simp) hyz (by simp [get2]) hsrc.get
  have hone : ∀ k u, (news.toArray ++ Builtin.zeroCells z.cells (cap - ys.length))[k]? = some u → k < news.length → u.oneCell' = true := by
    intro k u hk hlt
    rw [Array.getElem?_append_left (by simpa using hlt)] at hk
    exact hsrc.one u (List.mem_of_getElem? (by simpa using hk))
  have hsize : (news.toArray ++ Builtin.zeroCells z.cells (cap - ys.length)).size = cap * i.size := by
    simp only [Array.size_append, List.size_toArray, size_zeroCells, hsrc.size, hzz]
    rw [← Nat.add_mul]; congr 1; omega
  have hx2 := Cx.new_ext hgd (n := n) hn (news.toArray ++ Builtin.zeroCells z.cells (cap - ys.length)) e i.size
  refine hK _ _ (hxd.trans hx2) (Good.new hgd hn _ e i.size ys ?_ hyz fun i' j x hx => ?_) (new_dom _ _ _ _ _) ?_
  · rw [hsize]; exact Nat.mul_le_mul_right _ hge
  · obtain ⟨u, k1, k2⟩ := hrows i' j x (by simpa using hx)
    simp only [List.nil_append] at k1
    refine ⟨u, k1, k2.mono (hxd.trans hx2), ?_⟩
    have h9 := hsrc.get i' j x hx
    obtain ⟨u', k3, k4⟩ := h9
    exact hone _ u k1 (List.getElem?_eq_some_iff.1 k3).1
  · have := VR.view (c := ({ c with w := c.w.drew } : Cx).new n (news.toArray ++ Builtin.zeroCells z.cells (cap - ys.length)) e i.size) n 0 ys.length ⟨c.w.heap.size, 0, _, i.size, false⟩ 0 cap (by simp [Cx.new]; rfl) (.inr ⟨by simp, ?_⟩) hge
    · simpa using this
    · simp only [Nat.zero_mul, Nat.zero_add]
      rw [← hsize]; simp

/-- A block's row goes on in place, under another name. -/
def Cx.onto (c : Cx) (n : Nat) (p : Place) (k : Nat) (o : Nat) (vs : List Value) : Cx :=
  { c with ρ := upd c.ρ n (some ⟨p.b, p.o + k, p.cap - k, p.sz, false⟩), w := c.w.setCells p.b o vs }

theorem Good.onto {c : Cx} {h : Heap} (hg : Good E c h) {id n : Nat} {b : Blk} {p : Place} (hb : h id = some b) (hp : c.ρ id = some p) (hpm : p.m = false) (hn : c.ρ n = none) {off len : Nat} {ys : List (List V)} {news : List Value}
    (hfull : off + len = b.es.length) (hyz : ∀ e ∈ ys, e.length = b.sz) (hnl : news.length = ys.length * b.sz) (hget : ∀ i j x, get2 ys i j = some x → ∃ u, news[i * b.sz + j]? = some u ∧ VR c x u)
    (hone : ∀ u ∈ news, u.oneCell' = true) (hfit : (off + len + ys.length) * b.sz ≤ p.cap ∨ ys = []) :
    Ext c (c.onto n p (off * b.sz) (p.o + (off + len) * b.sz) news) ∧ Good E (c.onto n p (off * b.sz) (p.o + (off + len) * b.sz) news) (upd (upd h id none) n (some ⟨b.es.drop off ++ ys, b.sz, b.ty⟩)) := by
  have hin : id ≠ n := fun e => by rw [e, hn] at hp; cases hp
  have hx : Ext c (c.onto n p (off * b.sz) (p.o + (off + len) * b.sz) news) := by
    refine ⟨rfl, fun i q hq => ?_, fun _ h => h, fun k hk => heap_setCells_ne _ _ (fun (e : k = p.b) => hg.sep id b p hb hp (by rw [← e]; exact hk)) _ _ _, below_setCells _ _ (hg.own id p hp).1 _ _ _ _ (Below.refl _ _)⟩
    have : i ≠ n := fun e => by rw [e, hn] at hq; cases hq
    simp only [Cx.onto, upd_ne _ _ this, hq]
  refine ⟨hx, ?_⟩
  obtain ⟨cells, fz, q2, q3, q4, q5, q6, q7, q8⟩ := hg.cells hb hp hpm
  have hofc : off * b.sz ≤ p.cap := Nat.le_trans (Nat.mul_le_mul_right _ (by omega)) q6
  have hlive : ∀ i x, (upd (upd h id none) n (some ⟨b.es.drop off ++ ys, b.sz, b.ty⟩)) i = some x → i = n ∨ (i ≠ n ∧ i ≠ id ∧ h i = some x) := by
    intro i x hi
    by_cases h1 : i = n
    · exact .inl h1
    · rw [upd_ne _ _ h1] at hi
      by_cases h2 : i = id
      · subst h2; simp at hi
      · rw [upd_ne _ _ h2] at hi; exact .inr ⟨h1, h2, hi⟩
  have hrow : ∀ i, i < b.es.length → (i + 1) * b.sz ≤ b.es.length * b.sz := fun i hi => Nat.mul_le_mul_right _ hi
  refine ⟨fun i x hi => ?_, fun i i' x x' r r' hi hi' hr hr' he => ?_, fun k hk => ?_, fun i x r hi hr => ?_, fun i r hr => ?_, ?_, fun g cs hgc => (hg.glob g cs hgc).mono hx⟩
  · rcases hlive i x hi with rfl | ⟨h1, h2, h3⟩
    · simp only [upd_same, Option.some.injEq] at hi
      subst hi
      refine ⟨⟨p.b, p.o + off * b.sz, p.cap - off * b.sz, p.sz, false⟩, by simp [Cx.onto], fun _ => ⟨setArr cells (p.o + (off + len) * b.sz) news, fz, q2, heap_setCells _ _ _ _ _ _ _ q3, q4.imp (fun hz => hz) (fun hz => by simp only; omega), by rw [size_setArr]; simp only; omega, ?_, ?_, ?_⟩, fun h => by simp at h⟩
      · simp only [List.length_append, List.length_drop]
        have e1 : (b.es.length - off + ys.length) * b.sz + off * b.sz = (off + len + ys.length) * b.sz := by rw [← Nat.add_mul]; congr 1; omega
        rcases hfit with hfit | rfl
        · omega
        · simp only [List.length_nil, Nat.add_zero] at e1 ⊢
          rw [hfull] at e1; omega
      · intro e he
        rcases List.mem_append.1 he with h9 | h9
        · exact q7 e (List.mem_of_mem_drop h9)
        · exact hyz e h9
      · intro i' j y hy
        show ∃ v, (setArr cells (p.o + (off + len) * b.sz) news)[p.o + off * b.sz + i' * b.sz + j]? = some v ∧ _
        have hdl : (b.es.drop off).length = len := by simp; omega
        by_cases hil : i' < len
        · have hy2 : get2 b.es (off + i') j = some y := by
            unfold get2 at hy ⊢
            rw [List.getElem?_append_left (by omega), List.getElem?_drop] at hy
            exact hy
          obtain ⟨v, g1, g2, g3⟩ := q8 _ _ _ hy2
          have hj : j < b.sz := by
            unfold get2 at hy2
            cases hes : b.es[off + i']? with
            | none => simp [hes] at hy2
            | some e =>
              simp only [hes, Option.bind_some] at hy2
              have := (List.getElem?_eq_some_iff.1 hy2).1
              rw [q7 e (List.mem_of_getElem? hes)] at this; exact this
          refine ⟨v, ?_, g2.mono hx, g3⟩
          have e1 : p.o + off * b.sz + i' * b.sz + j = p.o + (off + i') * b.sz + j := by rw [Nat.add_mul]; omega
          have e2 : (off + i' + 1) * b.sz ≤ (off + len) * b.sz := Nat.mul_le_mul_right _ (by omega)
          rw [Nat.succ_mul] at e2
          rw [e1, get_setArr_out _ _ _ _ (by omega), g1]
        · have hy2 : get2 ys (i' - len) j = some y := by
            unfold get2 at hy ⊢
            rw [List.getElem?_append_right (by omega), hdl] at hy
            exact hy
          obtain ⟨u, g1, g2⟩ := hget _ _ _ hy2
          have hlt : (i' - len) * b.sz + j < news.length := (List.getElem?_eq_some_iff.1 g1).1
          refine ⟨u, ?_, g2.mono hx, hone u (List.mem_of_getElem? g1)⟩
          have e1 : p.o + off * b.sz + i' * b.sz + j = p.o + (off + len) * b.sz + ((i' - len) * b.sz + j) := by
            have : i' * b.sz = len * b.sz + (i' - len) * b.sz := by rw [← Nat.add_mul]; congr 1; omega
            rw [Nat.add_mul]; omega
          rw [e1]
          refine get_setArr_in news cells _ _ u ?_ g1
          rw [hnl]
          rcases hfit with hfit | rfl
          · rw [Nat.add_mul] at hfit; omega
          · simp at hnl; simp [hnl] at hlt
    · obtain ⟨r, g1, g2, g3⟩ := hg.blk i x h3
      have this : r.b ≠ p.b := fun e => h2 (hg.inj i id x b r p h3 hb g1 hp e)
      have hk : (c.onto n p (off * b.sz) (p.o + (off + len) * b.sz) news).w.heap[r.b]? = c.w.heap[r.b]? := heap_setCells_ne _ _ this _ _ _
      exact ⟨r, hx.rho _ _ g1, fun hm => (g2 hm).mono hx hk, fun hm => (g3 hm).mono hx hk⟩
  · have key : ∀ i x r, (upd (upd h id none) n (some ⟨b.es.drop off ++ ys, b.sz, b.ty⟩)) i = some x → (c.onto n p (off * b.sz) (p.o + (off + len) * b.sz) news).ρ i = some r →
        (i = n ∧ r.b = p.b) ∨ (i ≠ n ∧ i ≠ id ∧ h i = some x ∧ c.ρ i = some r) := by
      intro i x r hi hr
      rcases hlive i x hi with rfl | ⟨h1, h2, h3⟩
      · simp only [Cx.onto, upd_same, Option.some.injEq] at hr
        subst hr; exact .inl ⟨rfl, rfl⟩
      · simp only [Cx.onto, upd_ne _ _ h1] at hr
        exact .inr ⟨h1, h2, h3, hr⟩
    rcases key i x r hi hr with ⟨rfl, h1⟩ | ⟨h1, h2, h3, h4⟩ <;> rcases key i' x' r' hi' hr' with ⟨rfl, k1⟩ | ⟨k1, k2, k3, k4⟩
    · rfl
    · exact absurd (hg.inj i' id x' b r' p k3 hb k4 hp (by rw [← he, h1])) k2
    · exact absurd (hg.inj i id x b r p h3 hb h4 hp (by rw [he, k1])) h2
    · exact hg.inj i i' x x' r r' h3 k3 h4 k4 he
  · simp only [Cx.onto, size_setCells]; exact hg.imm k hk
  · rcases hlive i x hi with rfl | ⟨h1, h2, h3⟩
    · simp only [Cx.onto, upd_same, Option.some.injEq] at hr
      subst hr
      exact hg.sep id b p hb hp
    · simp only [Cx.onto, upd_ne _ _ h1] at hr
      exact hg.sep i x r h3 hr
  · simp only [Cx.onto, size_setCells]
    by_cases h1 : i = n
    · subst h1
      simp only [Cx.onto, upd_same, Option.some.injEq] at hr
      subst hr
      exact hg.own id p hp
    · simp only [Cx.onto, upd_ne _ _ h1] at hr
      exact hg.own i r hr
  · simp only [Cx.onto, size_setCells]; exact hg.base

/-- To a slice that ends where its block's elements end. -/
theorem op_append_view {ty tx e : TypeId} {x y : Operand} {sz by' id off len : Nat} {b : Blk} {ys : List (List V)} (ho : o.op = .call { callee := .builtin .append, args := #[x, y], argTypes := #[ty, tx] })
    (hx : E.eval t x = .view id off len) (hb : h id = some b) (hbz : b.sz = sz) (hbt : b.ty = e) (hfull : off + len = b.es.length) (hs : elemP E.P ty = some (e, sz, by')) (htx : srcP E.P tx = true) (h0 : sz ≠ 0)
    (hy : srcV h (E.eval t y) = some ys) (hyz : ∀ c ∈ ys, c.length = sz) (hbd : (len + ys.length) * by' ≤ 140737488355328) (hl : len + ys.length ≤ 9223372036854775807) :
    OpOK E o t h n (id :: srcIds (E.eval t y)) false (.view n 0 (len + ys.length)) [(id, none), (n, some ⟨b.es.drop off ++ ys, sz, e⟩)] (n + 1) := by
  intro c a h2 K Q hd hx' hg hrd _ hf hK
  have g1 := hx' x (by simp [ho, Op.operands, Call.operands])
  rw [hx] at g1
  have g2 := hx' y (by simp [ho, Op.operands, Call.operands])
  obtain ⟨i, z, hu, hi, hz, rfl, rfl, hzz⟩ := elemP_spec hs
  obtain ⟨d, htu, hdi⟩ := srcP_spec htx
  have hb2 : h2 id = some b := by rw [hrd id (by simp)]; exact hb
  obtain ⟨news, hsrc⟩ := src_ok hg g2 (by rw [srcV_congr (fun id hid => hrd id (by simp [hid]))]; exact hy) h0 hyz
  have hn : c.ρ n = none := hf n (Nat.le_refl _) (by omega)
  have hold : srcV h2 (.view id off len) = some (b.es.drop off) := by
    simp only [srcV, hb2]
    rw [if_pos (by omega), List.take_of_length_le (by simp; omega)]
  have g1' := g1
  have hpb : ∃ p, c.ρ id = some p ∧ p.m = false := by
    generalize a.eval x = w at g1'
    cases g1' with
    | view _ _ _ p _ _ hp _ _ hm => exact ⟨p, hp, hm⟩
  obtain ⟨pb, q1, hpm⟩ := hpb
  obtain ⟨cells, fz, q2, q3, q4, q5, q6, q7, q8⟩ := hg.cells hb2 q1 hpm
  have hdz : ∀ e ∈ b.es.drop off, e.length = i.size := fun e he => by rw [q7 e (List.mem_of_mem_drop he), hbz]
  obtain ⟨olds, hos⟩ := src_ok hg g1 hold h0 hdz
  have hdl : (b.es.drop off).length = len := by simp; omega
  generalize hw : a.eval x = w at g1 hos
  cases g1 with
  | view _ _ _ p o' cap hp hof hlc =>
    rw [hp] at q1; obtain rfl := Option.some.inj q1
    by_cases hroom : len + ys.length ≤ cap
    · have hthere : c.w.there p.b (o' + len * i.size) news.length := by
        intro k hk
        rw [hsrc.size] at hk
        have hcap : ¬ cap = 0 := fun e => by
          have : ys.length = 0 := by omega
          rw [this] at hk; simp at hk
        obtain ⟨e1, e2⟩ := hof.resolve_left hcap
        rw [q2, hbz] at e1 e2
        have hle : (len + ys.length) * i.size ≤ cap * i.size := Nat.mul_le_mul_right _ hroom
        rw [Nat.add_mul] at hle
        refine ⟨?_, ?_⟩
        · have : o' + len * i.size + k < cells.size := by omega
          simp [World.cell?, q3, this]
        · have : ¬ (fz.1 ≤ o' + len * i.size + k ∧ o' + len * i.size + k < fz.2) := by omega
          cases hz : (decide (fz.1 ≤ o' + len * i.size + k) && decide (o' + len * i.size + k < fz.2)) with
          | false => obtain ⟨z1, z2⟩ := fz; simpa [World.frozen?, q3] using hz
          | true =>
            simp only [Bool.and_eq_true, decide_eq_true_eq] at hz
            exact absurd hz this
      have hrun := run_append_room2 (P := E.P) (w := c.w) (ty := o.type) (sLen := len) (x := a.eval y) (news := news) hu htu hdi hi (hsrc.len _) (hsrc.first _ rfl) hroom hthere hsrc.one
      have hadd : ys ≠ [] → o' = p.o + off * i.size := fun hne => by
        have hcap : ¬ cap = 0 := fun e => by
          have : ys.length = 0 := by omega
          exact hne (List.eq_nil_of_length_eq_zero this)
        obtain ⟨e1, e2⟩ := hof.resolve_left hcap
        rw [q2, hbz] at e1; exact e1
      have hfit : (off + len + ys.length) * b.sz ≤ p.cap ∨ ys = [] := by
        by_cases hys : ys = []
        · exact .inr hys
        · left
          have hcap : ¬ cap = 0 := fun e => by
            have : ys.length = 0 := by omega
            exact hys (List.eq_nil_of_length_eq_zero this)
          obtain ⟨e1, e2⟩ := hof.resolve_left hcap
          have hle : (len + ys.length) * p.sz ≤ cap * p.sz := Nat.mul_le_mul_right _ hroom
          rw [← q2, Nat.add_assoc, Nat.add_mul]; omega
      obtain ⟨hx2, hg2⟩ := hg.onto (n := n) (ys := ys) (news := news) hb2 hp hpm hn hfull (by rw [hbz]; exact hyz) (by rw [hbz]; exact hsrc.size) (by rw [hbz]; exact hsrc.get) hsrc.one hfit
      have hworld : c.w.setCells p.b (o' + len * i.size) news = (c.onto n p (off * b.sz) (p.o + (off + len) * b.sz) news).w := by
        simp only [Cx.onto]
        by_cases hys : ys = []
        · have : news = [] := List.eq_nil_of_length_eq_zero (by rw [hsrc.size, hys]; simp)
          subst this; rfl
        · rw [hadd hys, hbz, Nat.add_mul]; congr 1; omega
      have hex : (execOp a.eval o).run E.P c.w = .ok (.value (.slice (some ⟨p.b, o', none⟩) (len + ys.length) cap)) (c.onto n p (off * b.sz) (p.o + (off + len) * b.sz) news).w := by
        rw [← hworld]
        simp [execOp, ho, hw, resolve, invoke, builtin, hrun]
      unfold Oper.wp
      rw [hex, Oper.upon_value]
      refine hK _ _ hx2 ?_ (fun id' hid' => ?_) ?_
      · have e1 : app [(id, none), (n, some ⟨b.es.drop off ++ ys, i.size, e⟩)] h2 = upd (upd h2 id none) n (some ⟨b.es.drop off ++ ys, b.sz, b.ty⟩) := by
          rw [hbz, hbt]; rfl
        rw [e1]; exact hg2
      · by_cases h9 : id' = n
        · exact .inr (by omega)
        · simp only [Cx.onto, upd_ne _ _ h9] at hid'; exact .inl hid'
      · refine .view n 0 _ ⟨p.b, p.o + off * b.sz, p.cap - off * b.sz, p.sz, false⟩ o' cap (by simp [Cx.onto]) ?_ hroom
        rcases hof with h9 | ⟨e1, e2⟩
        · exact .inl h9
        · refine .inr ⟨by simp only [Nat.zero_mul, Nat.add_zero]; rw [e1, q2], ?_⟩
          simp only [Nat.zero_mul, Nat.zero_add]
          rw [← q2]; omega
    · have hxd : Ext c { c with w := c.w.drew } := Ext.same c rfl rfl rfl rfl
      have hgd := hg.drew
      have hfo : (Builtin.firstCells i.size len (.slice (some ⟨p.b, o', none⟩) len cap)).run E.P c.w.drew = .ok olds.toArray c.w.drew := by
        have := hos.first c.w.drew rfl
        rw [hdl] at this; exact this
      have hrun := run_append_grow2 (P := E.P) (w := c.w) (ty := o.type) (base := some ⟨p.b, o', none⟩) (sLen := len) (sCap := cap) (x := a.eval y) (olds := olds) (news := news) hu htu hdi hi hz (hsrc.len _) hfo (hsrc.first _ rfl)
        (by omega) (by omega) (growslice_fits (by omega) hbd)
      have hge := grownCap_ge c.w (len + ys.length) cap e
      generalize hcap : grownCap c.w (len + ys.length) cap e = ncap at hrun hge
      have hex : (execOp a.eval o).run E.P c.w = .ok (.value (.slice (some ⟨c.w.heap.size, 0, none⟩) (len + ys.length) ncap)) (({ c with w := c.w.drew } : Cx).new n ((olds ++ news).toArray ++ Builtin.zeroCells z.cells (ncap - (len + ys.length))) e i.size).w := by
        have hrun' := hrun
        simp only [execOp, ho, resolve, invoke, builtin, List.map_toArray, List.map_cons, List.map_nil, hw, Sem.run_bind, Sem.run_pure, Result.andThen_ok, hrun', Cx.new]
      unfold Oper.wp
      rw [hex, Oper.upon_value]
      have hrows := grown_rows (c := c) (xs := b.es.drop off) (ys := ys) (olds := olds) (news := news) (rest := Builtin.zeroCells z.cells (ncap - (len + ys.length))) (sz := i.size) hos.size hsrc.size hdz hyz hos.get hsrc.get
      have hsize : ((olds ++ news).toArray ++ Builtin.zeroCells z.cells (ncap - (len + ys.length))).size = ncap * i.size := by
        simp only [Array.size_append, List.size_toArray, List.length_append, size_zeroCells, hsrc.size, hos.size, hzz, hdl]
        rw [← Nat.add_mul, ← Nat.add_mul]; congr 1; omega
      have hx2 := Cx.new_ext hgd (n := n) hn ((olds ++ news).toArray ++ Builtin.zeroCells z.cells (ncap - (len + ys.length))) e i.size
      have hg3 := Good.new (es := b.es.drop off ++ ys) hgd hn ((olds ++ news).toArray ++ Builtin.zeroCells z.cells (ncap - (len + ys.length))) e i.size (by
          rw [hsize, List.length_append, hdl]; exact Nat.mul_le_mul_right _ hge) (fun e he => by
          rcases List.mem_append.1 he with h9 | h9
          · exact hdz e h9
          · exact hyz e h9) (fun i' j x hx => by
          obtain ⟨u, k1, k2⟩ := hrows i' j x hx
          refine ⟨u, k1, k2.mono (hxd.trans hx2), ?_⟩
          have hlt : i' * i.size + j < (olds ++ news).length := by
            have hil : i' < (b.es.drop off ++ ys).length := by
              unfold get2 at hx
              cases h9 : (b.es.drop off ++ ys)[i']? with
              | none => simp [h9] at hx
              | some _ => exact (List.getElem?_eq_some_iff.1 h9).1
            have hjl : j < i.size := by
              unfold get2 at hx
              cases h9 : (b.es.drop off ++ ys)[i']? with
              | none => simp [h9] at hx
              | some r =>
                simp only [h9, Option.bind_some] at hx
                have h10 := (List.getElem?_eq_some_iff.1 hx).1
                rcases List.mem_append.1 (List.mem_of_getElem? h9) with h11 | h11
                · rw [hdz r h11] at h10; exact h10
                · rw [hyz r h11] at h10; exact h10
            have : (i' + 1) * i.size ≤ (b.es.drop off ++ ys).length * i.size := Nat.mul_le_mul_right _ hil
            rw [Nat.succ_mul, List.length_append, Nat.add_mul, ← hos.size, ← hsrc.size] at this
            rw [List.length_append]; omega
          rw [Array.getElem?_append_left (by simpa using hlt)] at k1
          have hm : u ∈ olds ++ news := List.mem_of_getElem? (i := i' * i.size + j) (by simpa using k1)
          rcases List.mem_append.1 hm with h9 | h9
          · exact hos.one u h9
          · exact hsrc.one u h9)
      -- the elder block is named no more
      have hkill : ∀ {c' : Cx} {h' : Heap}, Good E c' h' → ∀ id, id ≠ n → Good E c' (upd (upd h' id none) n (h' n)) := by
        intro c' h' hg' id hne
        have hsub : ∀ k x, (upd (upd h' id none) n (h' n)) k = some x → h' k = some x := by
          intro k x hk
          by_cases h1 : k = n
          · subst h1; simpa using hk
          · rw [upd_ne _ _ h1] at hk
            by_cases h2 : k = id
            · subst h2; simp at hk
            · rw [upd_ne _ _ h2] at hk; exact hk
        exact ⟨fun k x hk => hg'.blk k x (hsub k x hk), fun k k' x x' r r' h1 h2 => hg'.inj k k' x x' r r' (hsub _ _ h1) (hsub _ _ h2), hg'.imm, fun k x r h1 => hg'.sep k x r (hsub _ _ h1), hg'.own, hg'.base, hg'.glob⟩
      have hin : id ≠ n := fun e => by rw [e, hn] at hp; cases hp
      refine hK _ _ (hxd.trans hx2) ?_ (new_dom _ _ _ _ _) ?_
      · have := hkill hg3 id hin
        have e1 : app [(id, none), (n, some ⟨b.es.drop off ++ ys, i.size, e⟩)] h2 = upd (upd (upd h2 n (some ⟨b.es.drop off ++ ys, i.size, e⟩)) id none) n (upd h2 n (some ⟨b.es.drop off ++ ys, i.size, e⟩) n) := by
          funext k
          simp only [app]
          by_cases h1 : k = n
          · subst h1; simp
          · rw [upd_ne _ _ h1, upd_ne _ _ h1]
            by_cases h2' : k = id
            · subst h2'; simp
            · rw [upd_ne _ _ h2', upd_ne _ _ h2', upd_ne _ _ h1]
        rw [e1]; exact this
      · have := VR.view (c := ({ c with w := c.w.drew } : Cx).new n ((olds ++ news).toArray ++ Builtin.zeroCells z.cells (ncap - (len + ys.length))) e i.size) n 0 (len + ys.length) ⟨c.w.heap.size, 0, _, i.size, false⟩ 0 ncap (by simp [Cx.new]; rfl) (.inr ⟨by simp, ?_⟩) hge
        · simpa using this
        · simp only [Nat.zero_mul, Nat.zero_add]
          rw [← hsize]; simp

end ops
end Go.V
