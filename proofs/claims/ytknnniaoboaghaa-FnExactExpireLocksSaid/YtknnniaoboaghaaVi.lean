/- A logic over abstract states: conversions of strings, make, comparisons with nil, structs compared. No conditions. -/
import Derived.Test.YtknnniaoboaghaaVh
namespace Go.V
open Go.RowKit (Below)
set_option linter.unusedSimpArgs false
set_option linter.unusedVariables false

def Cx.newW (c : Cx) (n : Nat) (w' : World) (k sz : Nat) : Cx := { c with ρ := upd c.ρ n (some ⟨c.w.heap.size, 0, k, sz, false⟩), w := w' }

/-- A new block, however it came to be. -/
theorem Good.newW {E : Env} {c : Cx} {h : Heap} (hg : Good E c h) {n : Nat} (hn : c.ρ n = none) {w' : World} {cells : Array Value} {ty : TypeId} {fz : Nat × Nat} {sz : Nat} {es : List (List V)}
    (hw1 : ∀ k, k < c.w.heap.size → w'.heap[k]? = c.w.heap[k]?) (hw2 : w'.heap[c.w.heap.size]? = some (.cells cells ty fz)) (hw3 : w'.heap.size = c.w.heap.size + 1)
    (hw4 : w'.os = c.w.os ∧ w'.tape = c.w.tape ∧ w'.output = c.w.output) (hfz : fz.1 = fz.2 ∨ cells.size ≤ fz.1)
    (hlen : es.length * sz ≤ cells.size) (hsz : ∀ e ∈ es, e.length = sz) (hv : ∀ i j x, get2 es i j = some x → ∃ v, cells[i * sz + j]? = some v ∧ VR c x v ∧ v.oneCell' = true) :
    Ext c (c.newW n w' cells.size sz) ∧ Good E (c.newW n w' cells.size sz) (upd h n (some ⟨es, sz, ty⟩)) := by
  have hx : Ext c (c.newW n w' cells.size sz) := by
    refine ⟨rfl, fun id p hp => ?_, fun b hb => hb, fun b hb => hw1 b (hg.imm b hb), ⟨hw4.1, hw4.2.1, hw4.2.2, by simp only [Cx.newW, hw3]; omega, fun k hk => hw1 k (by have := hg.base; omega)⟩⟩
    have : id ≠ n := fun e => by rw [e, hn] at hp; cases hp
    simp only [Cx.newW, upd_ne _ _ this, hp]
  refine ⟨hx, fun id b hb => ?_, fun id id' b b' p p' hb hb' hp hp' he => ?_, fun b hb => ?_, fun id b p hb hp => ?_, fun id p hp => ?_, ?_, fun g cs hgc => (hg.glob g cs hgc).mono hx⟩
  · by_cases hi : id = n
    · subst hi
      simp only [upd_same, Option.some.injEq] at hb
      subst hb
      exact ⟨⟨c.w.heap.size, 0, cells.size, sz, false⟩, by simp [Cx.newW], fun _ => ⟨cells, fz, rfl, hw2, by simpa using hfz, by simp, hlen, hsz, fun i j x hx' => let ⟨v, h1, h2, h3⟩ := hv i j x hx'; ⟨v, by simpa using h1, h2.mono hx, h3⟩⟩, fun h => by simp at h⟩
    · rw [upd_ne _ _ hi] at hb
      obtain ⟨p, h1, h2, h3⟩ := hg.blk id b hb
      have hk : (c.newW n w' cells.size sz).w.heap[p.b]? = c.w.heap[p.b]? := hw1 _ (hg.own id p h1).2
      exact ⟨p, hx.rho _ _ h1, fun hm => (h2 hm).mono hx hk, fun hm => (h3 hm).mono hx hk⟩
  · by_cases hi : id = n <;> by_cases hi' : id' = n
    · rw [hi, hi']
    · subst hi
      simp only [Cx.newW, upd_same, Option.some.injEq] at hp
      simp only [Cx.newW, upd_ne _ _ hi'] at hp'
      have := (hg.own id' p' hp').2
      rw [← he, ← hp] at this; simp at this
    · subst hi'
      simp only [Cx.newW, upd_same, Option.some.injEq] at hp'
      simp only [Cx.newW, upd_ne _ _ hi] at hp
      have := (hg.own id p hp).2
      rw [he, ← hp'] at this; simp at this
    · rw [upd_ne _ _ hi] at hb
      rw [upd_ne _ _ hi'] at hb'
      simp only [Cx.newW, upd_ne _ _ hi] at hp
      simp only [Cx.newW, upd_ne _ _ hi'] at hp'
      exact hg.inj id id' b b' p p' hb hb' hp hp' he
  · have := hg.imm b hb
    simp only [Cx.newW, hw3]; omega
  · by_cases hi : id = n
    · subst hi
      simp only [Cx.newW, upd_same, Option.some.injEq] at hp
      intro hI
      have := hg.imm _ hI
      rw [← hp] at this; simp at this
    · rw [upd_ne _ _ hi] at hb
      simp only [Cx.newW, upd_ne _ _ hi] at hp
      exact hg.sep id b p hb hp
  · have hb := hg.base
    by_cases hi : id = n
    · subst hi
      simp only [Cx.newW, upd_same, Option.some.injEq] at hp
      subst hp
      simp only [Cx.newW, hw3]
      omega
    · simp only [Cx.newW, upd_ne _ _ hi] at hp
      have := hg.own id p hp
      simp only [Cx.newW, hw3]; omega
  · have hb := hg.base
    simp only [Cx.newW, hw3]; omega

section ops
variable {E : Env} {o : Oper} {t : Nat → V} {h : Heap} {n : Nat}

/-- The bytes that elements are. -/
def bytesOf : List (List V) → Option (List Int)
  | [] => some []
  | [.int .u8 b] :: r => (bytesOf r).map (b :: ·)
  | _ => none

def bytesOfT : List (List T) → Option (List Int)
  | [] => some []
  | [.int .u8 b] :: r => (bytesOfT r).map (b :: ·)
  | _ => none

def strOf (bs : List Int) : ByteArray := ⟨(bs.map fun b => UInt8.ofNat b.toNat).toArray⟩

theorem foldl_push (ns : List Int) : ∀ (s : ByteArray), ns.foldl (fun r n => r.push (UInt8.ofNat n.toNat)) s = ⟨s.data ++ (ns.map fun n => UInt8.ofNat n.toNat).toArray⟩ := by
  induction ns with
  | nil => intro s; simp
  | cons n ns ih =>
    intro s
    simp only [List.foldl_cons, ih]
    simp [ByteArray.push]

/-- 'string(b)'. -/
theorem op_string {sr ds e : TypeId} {x : Operand} {ys : List (List V)} {bs : List Int} (ho : o.op = .convert sr ds x) (hsr : E.P.underlying sr = some (.slice e)) (he : E.P.underlying e = some (.int .u8)) (hds : E.P.underlying ds = some .string)
    (hy : srcV h (E.eval t x) = some ys) (hns : ∀ s, E.eval t x ≠ .str s) (hb : ys = bs.map fun b => [.int .u8 b]) : OpOK E o t h n (srcIds (E.eval t x)) false (.str (strOf bs)) [] n :=
  OpOK.value fun c a h2 hx' hg hrd => by
    have g1 := hx' x (by simp [ho, Op.operands])
    obtain ⟨news, hsrc⟩ := src_ok (sz := 1) hg g1 (by rw [srcV_congr hrd]; exact hy) (by omega) (by subst hb; intro e he; obtain ⟨b, _, rfl⟩ := List.mem_map.1 he; rfl)
    refine ⟨.string (strOf bs), ?_, .str _⟩
    have hnews : news = bs.map (Value.int .u8) := by
      have hl : news.length = bs.length := by rw [hsrc.size, hb]; simp
      refine List.ext_getElem? fun k => ?_
      by_cases hk : k < bs.length
      · obtain ⟨u, h1, h2⟩ := hsrc.get k 0 (.int .u8 bs[k]) (by simp [get2, hb, hk])
        rw [Nat.mul_one, Nat.add_zero] at h1
        rw [h1, h2.int_inv]
        simp [hk]
      · rw [List.getElem?_eq_none (by omega), List.getElem?_eq_none (by simp; omega)]
    have hyl : ys.length = bs.length := by rw [hb]; simp
    have hlen := hsrc.len c.w
    have hfirst := hsrc.first c.w rfl
    generalize hw : a.eval x = w at g1 hlen hfirst
    have hsl : ∃ A l k, w = .slice A l k := by
      clear hsrc hrd
      revert hy hns g1
      generalize E.eval t x = q
      intro hy hns g1
      cases g1 with
      | str s => exact absurd rfl (hns s)
      | nsl => exact ⟨_, _, _, rfl⟩
      | view => exact ⟨_, _, _, rfl⟩
      | sl fr nn es v hv => cases hv; exact ⟨_, _, _, rfl⟩
      | _ => simp [srcV] at hy
    obtain ⟨A, l, k, rfl⟩ := hsl
    have hll : l = ys.length := by
      simp only [Builtin.lenOf, Sem.run_pure, Result.ok.injEq] at hlen; exact hlen.1
    have hconv : (convert sr ds (.slice A l k)).run E.P c.w = .ok (.string (strOf bs)) c.w := by
      rw [run_convert_bytes_string c.w sr ds e A l k hsr he hds]
      cases A with
      | none =>
        have h0 : (Builtin.firstCells 1 ys.length (.slice none l k)).run E.P c.w = .ok #[] c.w := by simp [Builtin.firstCells]
        rw [h0] at hfirst
        simp only [Result.ok.injEq, and_true] at hfirst
        have hn0 : news = [] := by simpa using hfirst.symm
        have hbs : bs = [] := by
          have : news.length = bs.length := by rw [hnews]; simp
          rw [hn0] at this
          exact List.eq_nil_of_length_eq_zero (by simpa using this.symm)
        subst hbs
        simp [Conv.bytesToString, strOf]
        rfl
      | some A =>
        have hl : (loadCells A l).run E.P c.w = .ok (bs.map (Value.int .u8)).toArray c.w := by
          simp only [Builtin.firstCells, Nat.mul_one] at hfirst
          rw [hll, hfirst, hnews]
        rw [run_bytesToString c.w A l k bs hl, foldl_push]
        simp [strOf]
    simp [execOp, ho, hw, hconv]

/-- 'make([]T, m)'. -/
theorem op_make {ty e : TypeId} {x y : Operand} {k k' : IntKind} {m : Nat} {sz by' : Nat} {zs : List V} (ho : o.op = .makeSlice ty x y) (hx : E.eval t x = .int k m) (hy : E.eval t y = .int k' m)
    (hs : elemP E.P ty = some (e, sz, by')) (hz : zeroV E.P e = some zs) (hc : zs.all V.cell = true) (h0 : sz ≠ 0) (hb : by' * m ≤ 281474976710656) (hl : m ≤ 9223372036854775807) :
    OpOK E o t h n [] false (.view n 0 m) [(n, some ⟨List.replicate m zs, sz, e⟩)] (n + 1) := by
  obtain ⟨i, z, hu, hi, hz', rfl, rfl, hzz⟩ := elemP_spec hs
  obtain ⟨z2, hzr, hzv⟩ := zeroV_run hz
  have hz2 : z2.cells.size = i.size ∧ z2 = z := by
    have h1 := hzr default
    simp only [zeroValue, typeInfo, Sem.run_bind, run_program, Result.andThen_ok, hi, Sem.run_pure, hz'] at h1
    have : z = z2 := by simpa using h1
    subst this; exact ⟨hzz, rfl⟩
  obtain ⟨hzs2, rfl⟩ := hz2
  have hzl : zs.length = i.size := by rw [hzv]; simp [hzs2]
  refine OpOK.makes (fun e he => by rw [List.eq_of_mem_replicate he]; exact hzl) fun c a h2 hx' hg => ?_
  have g1 := (by have := hx' x (by simp [ho, Op.operands]); rw [hx] at this; exact this.int_inv)
  have g2 := (by have := hx' y (by simp [ho, Op.operands]); rw [hy] at this; exact this.int_inv)
  have hb' : (i.bytes : Int) * (m : Int) ≤ 281474976710656 := by
    have h : ((i.bytes * m : Nat) : Int) ≤ 281474976710656 := by omega
    rwa [Int.natCast_mul] at h
  have hrun := run_make (P := E.P) c.w ty e i z2 hu hi hz' k k' m m (by omega) (Int.le_refl _) hb' (by omega)
  simp only [Int.toNat_natCast] at hrun
  refine ⟨madeCells z2.cells (m * i.size), .slice (some ⟨c.w.heap.size, 0, none⟩) m m, by simp [execOp, ho, g1, g2, hrun], by simp [size_madeCells], fun r j y hg2 => ?_, fun c' hc' => ?_⟩
  · unfold get2 at hg2
    cases hk : (List.replicate m zs)[r]? with
    | none => simp [hk] at hg2
    | some q =>
      have hq := List.eq_of_mem_replicate (List.mem_of_getElem? hk)
      have hkm : r < m := by have := (List.getElem?_eq_some_iff.1 hk).1; simpa using this
      subst hq
      simp only [hk, Option.bind_some] at hg2
      have hj : j < i.size := by rw [← hzl]; exact (List.getElem?_eq_some_iff.1 hg2).1
      have hlt : r * i.size + j < m * i.size := by
        have : (r + 1) * i.size ≤ m * i.size := Nat.mul_le_mul_right _ hkm
        rw [Nat.succ_mul] at this; omega
      have hmod : (r * i.size + j) % z2.cells.size = j := by
        rw [hzs2, Nat.mul_comm, Nat.mul_add_mod, Nat.mod_eq_of_lt hj]
      have hjz : j < z2.cells.size := by omega
      refine ⟨z2.cells[j], ?_, ?_⟩
      · simp [madeCells, hlt, hmod, hjz]
      · have hyv : y = V.ofConst z2.cells[j] := by
          subst hzv
          simp only [List.getElem?_map, Array.getElem?_toList] at hg2
          rw [Array.getElem?_eq_getElem hjz] at hg2
          simpa using hg2.symm
        have hvr : VR c y z2.cells[j] := by rw [hyv]; exact ofConst_ok c _
        exact ⟨hvr, hvr.oneCell ((List.all_eq_true.1 hc) y (List.mem_of_getElem? hg2))⟩
  · have := VR.view (c := c') n 0 m _ 0 m hc' (.inr ⟨by simp, by simp [size_madeCells]⟩) (Nat.le_refl _)
    simpa using this

end ops
end Go.V
