/- A logic over abstract states: new blocks, stores, loads. No conditions. -/
import Derived.Test.YtknnniaoboaghaaVc
import Derived.Deep.MidRow
namespace Go.V
open Go.RowKit (Below)
set_option linter.unusedSimpArgs false
set_option linter.unusedVariables false

/-! What holds of a context of which the heap stands. -/

theorem Ext.same (c : Cx) {w' : World} (ho : w'.os = c.w.os) (ht : w'.tape = c.w.tape) (hu : w'.output = c.w.output) (hh : w'.heap = c.w.heap) : Ext c { c with w := w' } :=
  ⟨rfl, fun _ _ h => h, fun _ h => h, fun _ _ => by simp [hh], ⟨ho, ht, hu, by simp [hh], fun _ _ => by simp [hh]⟩⟩

theorem Good.same {E : Env} {c : Cx} {h : Heap} (hg : Good E c h) {w' : World} (hx : Ext c { c with w := w' }) (hh : w'.heap = c.w.heap) : Good E { c with w := w' } h where
  blk := fun id b hb => by
    obtain ⟨p, h1, h2, h3⟩ := hg.blk id b hb
    exact ⟨p, h1, fun hm => (h2 hm).mono hx (by simp [hh]), fun hm => (h3 hm).mono hx (by simp [hh])⟩
  inj := hg.inj
  imm := fun b hb => by simpa [hh] using hg.imm b hb
  sep := hg.sep
  own := fun id p hp => by simpa [hh] using hg.own id p hp
  base := by simpa [hh] using hg.base
  glob := fun g cs hgc => (hg.glob g cs hgc).mono hx

/-! A new block. -/

def Cx.new (c : Cx) (n : Nat) (cells : Array Value) (ty : TypeId) (sz : Nat) : Cx :=
  { c with ρ := upd c.ρ n (some ⟨c.w.heap.size, 0, cells.size, sz, false⟩), w := c.w.alloc (.cells cells ty) }

theorem Cx.new_ext {E : Env} {c : Cx} {h : Heap} (hg : Good E c h) {n : Nat} (hn : c.ρ n = none) (cells : Array Value) (ty : TypeId) (sz : Nat) : Ext c (c.new n cells ty sz) where
  B := rfl
  rho := fun id p hp => by
    have : id ≠ n := fun e => by rw [e, hn] at hp; cases hp
    simp only [Cx.new, upd_ne _ _ this, hp]
  imm := fun b hb => hb
  keep := fun b hb => Below.heap_alloc _ _ _ (hg.imm b hb)
  below := (Below.refl _ _).alloc hg.base _

theorem Good.new {E : Env} {c : Cx} {h : Heap} (hg : Good E c h) {n : Nat} (hn : c.ρ n = none) (cells : Array Value) (ty : TypeId) (sz : Nat) (es : List (List V))
    (hlen : es.length * sz ≤ cells.size) (hsz : ∀ e ∈ es, e.length = sz) (hv : ∀ i j x, get2 es i j = some x → ∃ v, cells[i * sz + j]? = some v ∧ VR (c.new n cells ty sz) x v ∧ v.oneCell' = true) :
    Good E (c.new n cells ty sz) (upd h n (some ⟨es, sz, ty⟩)) := by
  have hx := Cx.new_ext hg hn cells ty sz
  have hnew : (c.new n cells ty sz).w.heap[c.w.heap.size]? = some (.cells cells ty (0, 0)) := heap_alloc_new _ _
  refine ⟨fun id b hb => ?_, fun id id' b b' p p' hb hb' hp hp' he => ?_, fun b hb => ?_, fun id b p hb hp => ?_, fun id p hp => ?_, ?_, fun g cs hgc => (hg.glob g cs hgc).mono hx⟩
  · by_cases hi : id = n
    · subst hi
      simp only [upd_same, Option.some.injEq] at hb
      subst hb
      exact ⟨⟨c.w.heap.size, 0, cells.size, sz, false⟩, by simp [Cx.new], fun _ => ⟨cells, (0, 0), rfl, hnew, .inl rfl, by simp, hlen, hsz, fun i j x hx' => by simpa using hv i j x hx'⟩, fun h => by simp at h⟩
    · rw [upd_ne _ _ hi] at hb
      obtain ⟨p, h1, h2, h3⟩ := hg.blk id b hb
      have hk : (c.new n cells ty sz).w.heap[p.b]? = c.w.heap[p.b]? := Below.heap_alloc _ _ _ (hg.own id p h1).2
      exact ⟨p, hx.rho _ _ h1, fun hm => (h2 hm).mono hx hk, fun hm => (h3 hm).mono hx hk⟩
  · by_cases hi : id = n <;> by_cases hi' : id' = n
    · rw [hi, hi']
    · subst hi
      simp only [Cx.new, upd_same, Option.some.injEq] at hp
      simp only [Cx.new, upd_ne _ _ hi'] at hp'
      have := (hg.own id' p' hp').2
      rw [← he, ← hp] at this; simp at this
    · subst hi'
      simp only [Cx.new, upd_same, Option.some.injEq] at hp'
      simp only [Cx.new, upd_ne _ _ hi] at hp
      have := (hg.own id p hp).2
      rw [he, ← hp'] at this; simp at this
    · rw [upd_ne _ _ hi] at hb
      rw [upd_ne _ _ hi'] at hb'
      simp only [Cx.new, upd_ne _ _ hi] at hp
      simp only [Cx.new, upd_ne _ _ hi'] at hp'
      exact hg.inj id id' b b' p p' hb hb' hp hp' he
  · have := hg.imm b hb
    simp only [Cx.new, World.size_alloc]; omega
  · by_cases hi : id = n
    · subst hi
      simp only [Cx.new, upd_same, Option.some.injEq] at hp
      intro hI
      have := hg.imm _ hI
      rw [← hp] at this; simp at this
    · rw [upd_ne _ _ hi] at hb
      simp only [Cx.new, upd_ne _ _ hi] at hp
      exact hg.sep id b p hb hp
  · have hb := hg.base
    by_cases hi : id = n
    · subst hi
      simp only [Cx.new, upd_same, Option.some.injEq] at hp
      subst hp
      simp only [Cx.new, World.size_alloc]
      omega
    · simp only [Cx.new, upd_ne _ _ hi] at hp
      have := hg.own id p hp
      simp only [Cx.new, World.size_alloc]; omega
  · have hb := hg.base
    simp only [Cx.new, World.size_alloc]; omega

theorem new_dom (c : Cx) (n : Nat) (cells : Array Value) (ty : TypeId) (sz : Nat) (id : Nat) (h : (c.new n cells ty sz).ρ id ≠ none) : c.ρ id ≠ none ∨ (n ≤ id ∧ id < n + 1) := by
  by_cases hi : id = n
  · exact .inr (by omega)
  · simp only [Cx.new, upd_ne _ _ hi] at h; exact .inl h

/-! A store. -/

def setArr (c : Array Value) : Nat → List Value → Array Value
  | _, [] => c
  | o, v :: r => setArr (c.setIfInBounds o v) (o + 1) r

theorem size_setArr (vs : List Value) : ∀ (c : Array Value) (o : Nat), (setArr c o vs).size = c.size := by
  induction vs with
  | nil => intro c o; rfl
  | cons v r ih => intro c o; simp [setArr, ih]

theorem get_setArr_out (vs : List Value) : ∀ (c : Array Value) (o k : Nat), (k < o ∨ o + vs.length ≤ k) → (setArr c o vs)[k]? = c[k]? := by
  induction vs with
  | nil => intro c o k _; rfl
  | cons v r ih =>
    intro c o k h
    simp only [List.length_cons] at h
    rw [setArr, ih _ _ _ (by omega), Array.getElem?_setIfInBounds_ne (by omega)]

theorem get_setArr_in (vs : List Value) : ∀ (c : Array Value) (o j : Nat) (v : Value), o + vs.length ≤ c.size → vs[j]? = some v → (setArr c o vs)[o + j]? = some v := by
  induction vs with
  | nil => intro c o j v _ h; simp at h
  | cons u r ih =>
    intro c o j v hs h
    simp only [List.length_cons] at hs
    cases j with
    | zero =>
      simp only [List.getElem?_cons_zero, Option.some.injEq] at h
      subst h
      rw [setArr, get_setArr_out _ _ _ _ (by omega)]
      have : o < c.size := by omega
      simp [this]
    | succ j =>
      rw [setArr, show o + (j + 1) = o + 1 + j from by omega]
      exact ih _ _ _ _ (by simp; omega) (by simpa using h)

theorem heap_setCells (b : Nat) (ty : TypeId) (fz : Nat × Nat) (vs : List Value) : ∀ (o : Nat) (w : World) (c : Array Value), w.heap[b]? = some (.cells c ty fz) →
    (w.setCells b o vs).heap[b]? = some (.cells (setArr c o vs) ty fz) := by
  induction vs with
  | nil => intro o w c h; exact h
  | cons v r ih =>
    intro o w c h
    rw [World.setCells, setArr]
    exact ih _ _ _ (by simp [World.setCell, Array.getElem?_modify, h])

theorem heap_setCells_ne (b k : Nat) (hk : k ≠ b) (vs : List Value) : ∀ (o : Nat) (w : World), (w.setCells b o vs).heap[k]? = w.heap[k]? := by
  induction vs with
  | nil => intro o w; rfl
  | cons v r ih => intro o w; rw [World.setCells, ih]; exact Below.heap_setCell _ _ _ _ hk

theorem size_setCells (b : Nat) (vs : List Value) : ∀ (o : Nat) (w : World), (w.setCells b o vs).heap.size = w.heap.size := by
  induction vs with
  | nil => intro o w; rfl
  | cons v r ih => intro o w; rw [World.setCells, ih]; simp

theorem below_setCells (b B : Nat) (hb : B ≤ b) (vs : List Value) : ∀ (o : Nat) (w a : World), Below B a w → Below B a (w.setCells b o vs) := by
  induction vs with
  | nil => intro o w a h; exact h
  | cons v r ih => intro o w a h; rw [World.setCells]; exact ih _ _ _ (h.setCell hb v)

def Cx.set (c : Cx) (b o : Nat) (vs : List Value) : Cx := { c with w := c.w.setCells b o vs }

theorem Cx.set_ext {E : Env} {c : Cx} {h : Heap} (hg : Good E c h) {id : Nat} {b : Blk} {p : Place} (hb : h id = some b) (hp : c.ρ id = some p) (o : Nat) (vs : List Value) : Ext c (c.set p.b o vs) where
  B := rfl
  rho := fun _ _ h => h
  imm := fun _ h => h
  keep := fun k hk => heap_setCells_ne _ _ (fun (e : k = p.b) => hg.sep id b p hb hp (by rw [← e]; exact hk)) _ _ _
  below := below_setCells _ _ (hg.own id p hp).1 _ _ _ _ (Below.refl _ _)

/-- The cells of element i from j on are other ones. -/
def splice (l : List V) (j : Nat) (xs : List V) : List V := l.take j ++ xs ++ l.drop (j + xs.length)

theorem length_splice (l : List V) (j : Nat) (xs : List V) (h : j + xs.length ≤ l.length) : (splice l j xs).length = l.length := by
  simp [splice]; omega

theorem get_splice (l : List V) (j : Nat) (xs : List V) (h : j + xs.length ≤ l.length) (k : Nat) :
    (splice l j xs)[k]? = if j ≤ k ∧ k < j + xs.length then xs[k - j]? else l[k]? := by
  unfold splice
  have hj : (l.take j).length = j := by simp; omega
  split
  · rename_i hk
    rw [List.append_assoc, List.getElem?_append_right (by omega), List.getElem?_append_left (by omega), hj]
  · rename_i hk
    by_cases h1 : k < j
    · rw [List.append_assoc, List.getElem?_append_left (by omega), List.getElem?_take_of_lt h1]
    · have h2 : j + xs.length ≤ k := by omega
      rw [List.getElem?_append_right (by simp; omega), List.getElem?_drop]
      congr 1
      simp; omega

theorem Good.store {E : Env} {c : Cx} {h : Heap} (hg : Good E c h) {id : Nat} {b : Blk} {p : Place} (hb : h id = some b) (hp : c.ρ id = some p) (hpm : p.m = false) (i j : Nat) (cs xs : List V) (vs : List Value)
    (hi : b.es[i]? = some cs) (hj : j + xs.length ≤ cs.length) (hl : vs.length = xs.length) (hv : ∀ (k : Nat) (x : V) (v : Value), xs[k]? = some x → vs[k]? = some v → VR c x v) (h1c : ∀ v ∈ vs, v.oneCell' = true) :
    Good E (c.set p.b (p.o + i * b.sz + j) vs) (upd h id (some { b with es := b.es.set i (splice cs j xs) })) := by
  have hx := Cx.set_ext hg hb hp (p.o + i * b.sz + j) vs
  obtain ⟨cells, fz, h2, h3, h4, h5, h6, h7, h8⟩ := hg.cells hb hp hpm
  have hmem : cs ∈ b.es := List.mem_of_getElem? hi
  have hcl : cs.length = b.sz := h7 cs hmem
  have hile : i < b.es.length := (List.getElem?_eq_some_iff.1 hi).1
  have hrow : i * b.sz + b.sz ≤ p.cap := by
    have : (i + 1) * b.sz ≤ b.es.length * b.sz := Nat.mul_le_mul_right _ hile
    rw [Nat.succ_mul] at this; omega
  refine ⟨fun id' b' hb' => ?_, fun id1 id2 b1 b2 p1 p2 hb1 hb2 hp1 hp2 he => ?_, fun k hk => ?_, fun id' b' p' hb' hp' => ?_, fun id' p' hp' => ?_, ?_, fun g cs hgc => (hg.glob g cs hgc).mono hx⟩
  · by_cases hid : id' = id
    · subst hid
      simp only [upd_same, Option.some.injEq] at hb'
      subst hb'
      refine ⟨p, hp, fun _ => ⟨setArr cells (p.o + i * b.sz + j) vs, fz, h2, heap_setCells _ _ _ _ _ _ _ h3, h4, by rw [size_setArr]; exact h5, by simpa using h6, ?_, ?_⟩, fun hm => by rw [hpm] at hm; cases hm⟩
      · intro e he
        rcases List.mem_or_eq_of_mem_set he with h9 | h9
        · exact h7 e h9
        · rw [h9, length_splice _ _ _ hj]; exact hcl
      · intro i' j' x hx'
        show ∃ v, (setArr cells (p.o + i * b.sz + j) vs)[p.o + i' * b.sz + j']? = some v ∧ _
        by_cases hii : i' = i
        · subst hii
          simp only [get2, List.getElem?_set_self hile, Option.bind_some] at hx'
          rw [get_splice _ _ _ hj] at hx'
          split at hx'
          · rename_i hr
            have hk : j' - j < vs.length := by omega
            refine ⟨vs[j' - j], ?_, (hv _ _ _ hx' (by simp [hk])).mono hx, h1c _ (List.getElem_mem hk)⟩
            have := get_setArr_in vs cells (p.o + i' * b.sz + j) (j' - j) vs[j' - j] (by omega) (by simp [hk])
            rw [← this]; congr 1; omega
          · rename_i hr
            obtain ⟨v, h9, h10, h11⟩ := h8 i' j' x (by simp [get2, hi, hx'])
            refine ⟨v, ?_, h10.mono hx, h11⟩
            rw [get_setArr_out _ _ _ _ (by omega)]; exact h9
        · simp only [get2, List.getElem?_set_ne (Ne.symm hii)] at hx'
          obtain ⟨v, h9, h10, h11⟩ := h8 i' j' x hx'
          refine ⟨v, ?_, h10.mono hx, h11⟩
          have hj' : j' < b.sz := by
            cases hes : b.es[i']? with
            | none => simp [hes] at hx'
            | some e =>
              simp only [hes, Option.bind_some] at hx'
              have := (List.getElem?_eq_some_iff.1 hx').1
              rw [h7 e (List.mem_of_getElem? hes)] at this; exact this
          rw [get_setArr_out, h9]
          rcases Nat.lt_or_gt_of_ne hii with hlt | hgt
          · have : (i' + 1) * b.sz ≤ i * b.sz := Nat.mul_le_mul_right _ hlt
            rw [Nat.succ_mul] at this; omega
          · have : (i + 1) * b.sz ≤ i' * b.sz := Nat.mul_le_mul_right _ hgt
            rw [Nat.succ_mul] at this; omega
    · rw [upd_ne _ _ hid] at hb'
      obtain ⟨q, g1, g2, g3⟩ := hg.blk id' b' hb'
      have this : q.b ≠ p.b := fun e => hid (hg.inj id' id b' b q p hb' hb g1 hp e)
      have hk : (c.set p.b (p.o + i * b.sz + j) vs).w.heap[q.b]? = c.w.heap[q.b]? := heap_setCells_ne _ _ this _ _ _
      exact ⟨q, g1, fun hm => (g2 hm).mono hx hk, fun hm => (g3 hm).mono hx hk⟩
  · have g1 : ∃ b, h id1 = some b := by
      by_cases h9 : id1 = id
      · exact ⟨b, h9 ▸ hb⟩
      · rw [upd_ne _ _ h9] at hb1; exact ⟨_, hb1⟩
    have g2 : ∃ b, h id2 = some b := by
      by_cases h9 : id2 = id
      · exact ⟨b, h9 ▸ hb⟩
      · rw [upd_ne _ _ h9] at hb2; exact ⟨_, hb2⟩
    obtain ⟨x1, g1⟩ := g1
    obtain ⟨x2, g2⟩ := g2
    exact hg.inj id1 id2 x1 x2 p1 p2 g1 g2 hp1 hp2 he
  · simp only [Cx.set, size_setCells]; exact hg.imm k hk
  · by_cases h9 : id' = id
    · subst h9; exact hg.sep id' b p' hb hp'
    · rw [upd_ne _ _ h9] at hb'; exact hg.sep id' b' p' hb' hp'
  · simp only [Cx.set, size_setCells]; exact hg.own id' p' hp'
  · simp only [Cx.set, size_setCells]; exact hg.base

/-! The cells of a value. -/

def V.cells : V → List V
  | .agg cs => cs
  | v => [v]

/-- Its shape is known. -/
def V.known : V → Bool
  | .unk | .tup _ => false
  | _ => true

theorem VR.cells {c : Cx} {x : V} {v : Value} (h : VR c x v) (hk : x.known = true) : v.cells.size = x.cells.length ∧ ∀ (i : Nat) (y : V) (u : Value), x.cells[i]? = some y → v.cells[i]? = some u → VR c y u := by
  have one : ∀ (x : V) (v : Value), VR c x v → x.cells = [x] → v.cells = #[v] → v.cells.size = x.cells.length ∧ ∀ (i : Nat) (y : V) (u : Value), x.cells[i]? = some y → v.cells[i]? = some u → VR c y u := by
    intro x v h h1 h2
    rw [h1, h2]
    refine ⟨rfl, fun i y u hy hu => ?_⟩
    cases i with
    | zero =>
      simp at hy hu
      subst hy; subst hu
      exact h
    | succ i => simp at hy
  cases h with
  | agg cs vs hl hr => exact ⟨hl.symm, hr⟩
  | tup cs vs hl hr => simp [V.known] at hk
  | unk v => simp [V.known] at hk
  | bool b => exact one _ _ (.bool b) rfl rfl
  | int k n => exact one _ _ (.int k n) rfl rfl
  | str s => exact one _ _ (.str s) rfl rfl
  | nilp => exact one _ _ .nilp rfl rfl
  | nilf => exact one _ _ .nilf rfl rfl
  | nsl => exact one _ _ .nsl rfl rfl
  | sl fr nn es v h =>
    refine one _ _ (.sl fr nn es v h) rfl ?_
    cases h; rfl
  | view id off len p o cap hp ho hl hm => exact one _ _ (.view id off len p o cap hp ho hl hm) rfl rfl
  | ptr id i j p hp hm => exact one _ _ (.ptr id i j p hp hm) rfl rfl
  | map id p hp hm => exact one _ _ (.map id p hp hm) rfl rfl
  | iptr fr cs b o rd hI hrd hsub => exact one _ _ (.iptr fr cs b o rd hI hrd hsub) rfl rfl
  | clo f caps vs hl hh => exact one _ _ (.clo f caps vs hl hh) rfl rfl

theorem VR.oneCell {c : Cx} {x : V} {v : Value} (h : VR c x v) (hx : x.cell = true) : v.oneCell' = true := by
  cases h with
  | sl fr nn es v h => cases h; rfl
  | agg | tup | unk => simp [V.cell] at hx
  | _ => rfl

/-- A block's element, read. -/
theorem Good.range {E : Env} {c : Cx} {h : Heap} (hg : Good E c h) {id : Nat} {b : Blk} {p : Place} (hb : h id = some b) (hp : c.ρ id = some p) (hpm : p.m = false) {i : Nat} {cs : List V} (hi : b.es[i]? = some cs) (j n : Nat)
    (hn : j + n ≤ cs.length) : ∃ vs : List Value, vs.length = n ∧ c.w.rangeAt p.b (p.o + i * p.sz + j) vs ∧ (∀ (k : Nat) (x : V) (v : Value), ((cs.drop j).take n)[k]? = some x → vs[k]? = some v → VR c x v) ∧ ∀ v ∈ vs, v.oneCell' = true := by
  obtain ⟨cells, fz, h2, h3, h4, h5, h6, h7, h8⟩ := hg.cells hb hp hpm
  have hx : ∀ k, k < n → ∃ x v, cs[j + k]? = some x ∧ cells[p.o + i * p.sz + j + k]? = some v ∧ VR c x v ∧ v.oneCell' = true := by
    intro k hk
    have hlt : j + k < cs.length := by omega
    obtain ⟨v, h9, h10, h11⟩ := h8 i (j + k) cs[j + k] (by simp [get2, hi, hlt])
    exact ⟨cs[j + k], v, by simp [hlt], by rw [← h9, h2, Nat.add_assoc], h10, h11⟩
  refine ⟨(List.range n).map fun k => (cells[p.o + i * p.sz + j + k]?).getD undef, by simp, fun k v hv => ?_, fun k x v hxk hv => ?_, fun v hv => ?_⟩
  · have hk : k < n := by
      have := (List.getElem?_eq_some_iff.1 hv).1
      simpa using this
    obtain ⟨x, u, g1, g2, g3, g4⟩ := hx k hk
    simp only [List.getElem?_map, List.getElem?_range hk, Option.map_some, Option.some.injEq] at hv
    simp only [World.cell?, h3]
    simpa [g2] using hv
  · have hk : k < n := by
      have := (List.getElem?_eq_some_iff.1 hv).1
      simpa using this
    obtain ⟨y, u, g1, g2, g3, g4⟩ := hx k hk
    simp only [List.getElem?_map, List.getElem?_range hk, Option.map_some, Option.some.injEq, g2, Option.getD_some] at hv
    rw [List.getElem?_take_of_lt hk, List.getElem?_drop, g1] at hxk
    simp only [Option.some.injEq] at hxk
    subst hv; subst hxk
    exact g3
  · obtain ⟨k, hk, rfl⟩ := List.mem_map.1 hv
    obtain ⟨y, u, g1, g2, g3, g4⟩ := hx k (List.mem_range.1 hk)
    rw [g2]; exact g4

theorem Good.there {E : Env} {c : Cx} {h : Heap} (hg : Good E c h) {id : Nat} {b : Blk} {p : Place} (hb : h id = some b) (hp : c.ρ id = some p) (hpm : p.m = false) {i : Nat} {cs : List V} (hi : b.es[i]? = some cs) (j n : Nat)
    (hn : j + n ≤ cs.length) : c.w.there p.b (p.o + i * p.sz + j) n := by
  obtain ⟨cells, fz, h2, h3, h4, h5, h6, h7, h8⟩ := hg.cells hb hp hpm
  have hile : i < b.es.length := (List.getElem?_eq_some_iff.1 hi).1
  have hcl := h7 cs (List.mem_of_getElem? hi)
  have hrow : i * p.sz + p.sz ≤ p.cap := by
    have : (i + 1) * b.sz ≤ b.es.length * b.sz := Nat.mul_le_mul_right _ hile
    rw [Nat.succ_mul] at this; rw [h2]; omega
  intro k hk
  refine ⟨?_, ?_⟩
  · have : p.o + i * p.sz + j + k < cells.size := by omega
    simp [World.cell?, h3, this]
  · have : ¬ (fz.1 ≤ p.o + i * p.sz + j + k ∧ p.o + i * p.sz + j + k < fz.2) := by omega
    cases hz : (decide (fz.1 ≤ p.o + i * p.sz + j + k) && decide (p.o + i * p.sz + j + k < fz.2)) with
    | false => obtain ⟨z1, z2⟩ := fz; simpa [World.frozen?, h3] using hz
    | true =>
      simp only [Bool.and_eq_true, decide_eq_true_eq] at hz
      exact absurd hz this

end Go.V
