import Derived.ChangeArms
import Derived.DataReads
import Derived.Test.YtknnniaoboaghaaM5
namespace Go.V
open Go
set_option linter.unusedVariables false
set_option linter.unusedSimpArgs false
def V.flat2 : V → Bool
  | .agg cs => cs.all V.flat
  | x => x.flat
def V.flat3 : V → Bool
  | .tup vs => vs.all V.flat2
  | x => x.flat2
theorem VR.flat2 {c c' : Cx} {x : V} {v : Value} (hx : x.flat2 = true) (h : VR c x v) (hr : ∀ id p, c.ρ id = some p → c'.ρ id = some p) : VR c' x v := by
  cases h with
  | agg cs vs hl h =>
    refine .agg cs vs hl fun i x u h1 h2 => VR.flat ?_ (h i x u h1 h2) hr
    unfold V.flat2 at hx
    exact List.all_eq_true.1 hx x (List.mem_of_getElem? h1)
  | bool b => exact .bool b
  | int k n => exact .int k n
  | str s => exact .str s
  | nilp => exact .nilp
  | nilf => exact .nilf
  | nsl => exact .nsl
  | view id off len p o cap hp ho hl hm => exact .view id off len p o cap (hr _ _ hp) ho hl hm
  | ptr id i j p hp hm => exact .ptr id i j p (hr _ _ hp) hm
  | unk v => exact .unk v
  | _ => cases hx
theorem VR.flat3 {c c' : Cx} {x : V} {v : Value} (hx : x.flat3 = true) (h : VR c x v) (hr : ∀ id p, c.ρ id = some p → c'.ρ id = some p) : VR c' x v := by
  by_cases ht : ∃ vs, x = .tup vs
  · obtain ⟨vs, rfl⟩ := ht
    cases h with
    | tup _ us hl h =>
      refine .tup vs us hl fun i x u h1 h2 => VR.flat2 ?_ (h i x u h1 h2) hr
      unfold V.flat3 at hx
      exact List.all_eq_true.1 hx x (List.mem_of_getElem? h1)
  · refine VR.flat2 ?_ h hr
    unfold V.flat3 at hx
    cases x <;> first | exact hx | exact absurd ⟨_, rfl⟩ ht
theorem op_freshS {E : Env} {o : Oper} {t : Nat → V} {h : Heap} {n n' : Nat} {fo : Operand} {args : Array Operand} {tys : Array TypeId} {f : FuncId} {vs : List V} {az : List A} {ids : List Nat} {v : V} {wr : List (Nat × Option Blk)}
    (ho : o.op = .call { callee := .value fo, args := args, argTypes := tys }) (hc : E.eval t fo = .clo f []) (hv : args.toList.map (E.eval t) = vs) (hs : SnapL h ids false vs az) (hop : Open E f (az.map (A.toV false)) (fun _ => none) n v wr n')
    (hfl : v.flat3 = true) (hwf : ∀ id b, app wr (fun _ => none) id = some b → ∀ e ∈ b.es, ∀ x ∈ e, x.flat = true) :
    OpOK E o t h n ids false v wr n' := by
  intro c a h2 K Q hd hx hg hrd _ hf hK
  obtain ⟨cs, hrun, hcl, hcr⟩ := AB ho hc hx (by unfold Open at hop; exact hop.1.1)
  have hcs : cs = #[] := Array.eq_empty_of_size_eq_zero (by simpa using hcl.symm)
  subst hcs
  simp only [Array.append_empty] at hrun
  unfold Oper.wp
  rw [hrun, Oper.upon_enter]
  let c0 : Cx := { ρ := fun _ => none, I := fun b => b < c.w.heap.size, B := c.B, w := c.w }
  have hg0 : Good E c0 (fun _ => none) := by
    refine ⟨fun _ _ h => (nomatch h), fun _ _ _ _ _ _ h => (nomatch h), fun _ h => h, fun _ _ _ h => (nomatch h), fun _ _ h => (nomatch h), hg.base, fun g cs hgc => ?_⟩
    have := hg.glob g cs hgc
    cases this with
    | iptr _ _ b off rd hI hrd' hsub =>
      exact .iptr false cs g 0 rd ⟨hg.imm _ hI.1, by simp⟩ hrd' fun j x hj => (hsub j x hj).mono (fun b hb => ⟨hg.imm _ hb.1, by simp⟩) fun _ _ => rfl
  unfold Open at hop
  have hlive0 : ∀ b, Seen c h2 false b → b < c.w.heap.size := by
    rintro b ⟨h1 | ⟨id, x, p, _, h4, rfl⟩, _⟩
    · exact hg.imm b h1
    · exact (hg.own id p h4).2
  have hsp := hs.spec
  refine Calls.mono (hop.2 c0 (args.map a.eval) hg0 (fun _ _ => rfl) (by rw [List.length_map, ← hsp.1, ← hv]; simp) (fun i x u h1 h3 => ?_)) ?_
  · rw [List.getElem?_map] at h1
    rw [Array.getElem?_map] at h3
    cases hx' : args[i]? with
    | none => simp [hx'] at h3
    | some y =>
      have hx2 : args.toList[i]? = some y := by simpa using hx'
      simp only [hx', Option.map_some, Option.some.injEq] at h3
      cases ha : az[i]? with
      | none => simp [ha] at h1
      | some z =>
        simp only [ha, Option.map_some, Option.some.injEq] at h1
        subst h1; subst h3
        have hz := (hsp.2 i (E.eval t y) z (by rw [← hv, List.getElem?_map, hx2]; rfl) ha).congr hrd
        have := hz.ok hg (hx y (by simp [ho, Op.operands, Call.operands]; exact .inr (Array.mem_of_getElem? hx')))
        exact (this.mono (I' := c0.J false) (fun b hb => ⟨hlive0 b hb, by simp⟩) (fun _ _ => rfl)).toV
  · rintro e w' ⟨u, c', rfl, rfl, hx2, hg2, hd2, hv2⟩
    have hdom : ∀ id p, c'.ρ id = some p → n ≤ id ∧ id < n' := fun id p hp => by
      rcases hd2 id (by rw [hp]; nofun) with h1 | h1
      · exact absurd rfl h1
      · exact h1
    have hsz : c.w.heap.size ≤ c'.w.heap.size := hx2.below.size
    have hBB : c'.B = c.B := hx2.B
    have hnew : ∀ id b p, app wr (fun _ => none) id = some b → c'.ρ id = some p → c.w.heap.size ≤ p.b := fun id b p h1 h3 => by
      rcases Nat.lt_or_ge p.b c.w.heap.size with h4 | h4
      · exact absurd (hx2.imm _ h4) (hg2.sep id b p h1 h3)
      · exact h4
    let c2 : Cx := { ρ := fun id => (c'.ρ id).or (c.ρ id), I := fun b => c.I b, B := c.B, w := c'.w }
    have r1 : ∀ id p, c.ρ id = some p → c2.ρ id = some p := fun id p hp => by
      show (c'.ρ id).or (c.ρ id) = some p
      cases hq : c'.ρ id with
      | none => simpa using hp
      | some q =>
        have := hdom id q hq
        rw [hf id this.1 this.2] at hp; cases hp
    have r2 : ∀ id p, c'.ρ id = some p → c2.ρ id = some p := fun id p hp => by
      show (c'.ρ id).or (c.ρ id) = some p
      rw [hp]; rfl
    have keep : ∀ b, b < c.w.heap.size → c'.w.heap[b]? = c.w.heap[b]? := fun b hb => hx2.keep b hb
    have hx3 : Ext c c2 := ⟨rfl, r1, fun b h => h, fun b hb => keep b (hg.imm b hb), hx2.below⟩
    have hlive : ∀ id b, app wr h2 id = some b → (∃ p, app wr (fun _ => none) id = some b ∧ c'.ρ id = some p) ∨ (id ∉ wr.map (·.1) ∧ h2 id = some b ∧ ∃ p, c.ρ id = some p) := fun id b hb => by
      by_cases hm : id ∈ wr.map (·.1)
      · rw [P2 wr h2 (fun _ => none) id hm] at hb
        obtain ⟨p, h1, _⟩ := hg2.blk id b hb
        exact .inl ⟨p, hb, h1⟩
      · rw [N4 wr h2 id hm] at hb
        obtain ⟨p, h1, _⟩ := hg.blk id b hb
        exact .inr ⟨hm, hb, p, h1⟩
    refine hK c2 u hx3 ?_ ?_ (VR.flat3 hfl hv2 r2)
    · refine ⟨fun id b hb => ?_, fun id id' b b' p p' hb hb' hp hp' hpp => ?_, fun b hb => Nat.lt_of_lt_of_le (hg.imm b hb) hsz, fun id b p hb hp hI => ?_, fun id p hp => ?_, Nat.le_trans hg.base hsz, fun g cs hgc => (hg.glob g cs hgc).mono hx3⟩
      · rcases hlive id b hb with ⟨p, h1, h3⟩ | ⟨_, h1, p, h3⟩
        · obtain ⟨q, k1, k2, k3⟩ := hg2.blk id b h1
          refine ⟨q, r2 _ _ k1, fun hm => ?_, fun hm => ?_⟩
          rotate_left
          · obtain ⟨es, j1, j2, j3⟩ := k3 hm
            refine ⟨es, j1, j2, fun i row hr => ?_⟩
            obtain ⟨e, k, x, m1, m2, m3, m4, m5⟩ := j3 i row hr
            have hfr := hwf id b h1 row (List.mem_of_getElem? hr)
            exact ⟨e, k, x, m1, m2, m3, VR.flat (hfr k (by rw [m2]; simp)) m4 r2, VR.flat (hfr x (by rw [m2]; simp)) m5 r2⟩
          obtain ⟨cells, fz, j2, j3, j4, j5, j6, j7, j8⟩ := k2 hm
          refine ⟨cells, fz, j2, j3, j4, j5, j6, j7, fun i j x hx => ?_⟩
          obtain ⟨w, m1, m2, m3⟩ := j8 i j x hx
          refine ⟨w, m1, VR.flat ?_ m2 r2, m3⟩
          unfold get2 at hx
          cases he : b.es[i]? with
          | none => simp [he] at hx
          | some e =>
            simp only [he, Option.bind_some] at hx
            exact hwf id b h1 e (List.mem_of_getElem? he) x (List.mem_of_getElem? hx)
        · obtain ⟨q, k1, k2, k3⟩ := hg.blk id b h1
          have hk := keep q.b (hg.own id q k1).2
          exact ⟨q, r1 _ _ k1, fun hm => (k2 hm).mono hx3 hk, fun hm => (k3 hm).mono hx3 hk⟩
      · have key : ∀ id b p, app wr h2 id = some b → c2.ρ id = some p → (app wr (fun _ => none) id = some b ∧ c'.ρ id = some p ∧ c.w.heap.size ≤ p.b) ∨ (h2 id = some b ∧ c.ρ id = some p ∧ p.b < c.w.heap.size) := fun id b p hb hp => by
          rcases hlive id b hb with ⟨q, h1, h3⟩ | ⟨_, h1, q, h3⟩
          · have := r2 _ _ h3
            rw [this] at hp; obtain rfl := Option.some.inj hp
            exact .inl ⟨h1, h3, hnew _ _ _ h1 h3⟩
          · have := r1 _ _ h3
            rw [this] at hp; obtain rfl := Option.some.inj hp
            exact .inr ⟨h1, h3, (hg.own _ _ h3).2⟩
        rcases key id b p hb hp with ⟨a1, a2, a3⟩ | ⟨a1, a2, a3⟩ <;> rcases key id' b' p' hb' hp' with ⟨b1, b2, b3⟩ | ⟨b1, b2, b3⟩
        · exact hg2.inj id id' b b' p p' a1 b1 a2 b2 hpp
        · omega
        · omega
        · exact hg.inj id id' b b' p p' a1 b1 a2 b2 hpp
      · rcases hlive id b hb with ⟨q, h1, h3⟩ | ⟨_, h1, q, h3⟩
        · have := r2 _ _ h3
          rw [this] at hp; obtain rfl := Option.some.inj hp
          have := hnew _ _ _ h1 h3
          have := hg.imm _ hI
          omega
        · have := r1 _ _ h3
          rw [this] at hp; obtain rfl := Option.some.inj hp
          exact hg.sep id b _ h1 h3 hI
      · have hp2 : (c'.ρ id).or (c.ρ id) = some p := hp
        cases hq : c'.ρ id with
        | some q =>
          rw [hq] at hp2
          obtain rfl : q = p := by simpa using hp2
          have := hg2.own id q hq
          rw [hBB] at this; exact this
        | none =>
          rw [hq] at hp2
          have := hg.own id p (by simpa using hp2)
          exact ⟨this.1, Nat.lt_of_lt_of_le this.2 hsz⟩
    · intro id hid
      have hid2 : (c'.ρ id).or (c.ρ id) ≠ none := hid
      cases hq : c'.ρ id with
      | some q => exact .inr (hdom id q hq)
      | none => rw [hq] at hid2; exact .inl (by simpa using hid2)
section
variable {E : Env} {sz : Nat} {ops : Array Oper} {bl : List Nat} {pre : List Ef} {o : Oper} {l : List Oper} {t : Nat → V} {h : Heap} {n : Nat} {R : (Nat → V) → Heap → Nat → Prop} {v : V} {z : Operand}
theorem rfs {tys : Array TypeId} {f : FuncId} {args : Array Operand} {vs : List V} {wr : List (Nat × Option Blk)} {n1 : Nat} (ids : List Nat) {az : List A} (hop : Open E f (az.map (A.toV false)) (fun _ => none) n v wr n1) (ho : o.op = .call { callee := .value z, args := args, argTypes := tys }) (G0 : E.eval t z = .clo f [] ∧ args.toList.map (E.eval t) = vs) (hs : SnapL h ids false vs az)
    (hfl : v.flat3 = true) (hwf : ∀ id b, app wr (fun _ => none) id = some b → ∀ e ∈ b.es, ∀ x ∈ e, x.flat = true) (hne : wr ≠ []) {d : Nat} (G1 : o.dst = some d ∧ Nat.blt d sz = true ∧ guardV ops t o = some true) (w : WR E sz ops l (upd t d v) (app wr h) n1 R) : WR E sz ops (o :: l) t h n R := have ⟨hc, hv⟩ := G0; have ⟨hdd, hd, hg⟩ := G1; BY (op_freshS ho hc hv hs hop hfl hwf) hdd hd hg hop.le (fun h => absurd h hne) w
end
end Go.V
namespace Go.V
open Go
set_option linter.unusedVariables false
set_option linter.unusedSimpArgs false
inductive Sh where
  | bool
  | int (k : IntKind)
  | str
  | sl (l : List Sh)
mutual
inductive HasSh : T → Sh → Prop
  | bool (b : Bool) : HasSh (.bool b) .bool
  | int (k : IntKind) (n : Int) (h : (Lit.int k n).wf = true) : HasSh (.int k n) (.int k)
  | str (s : ByteArray) (h : s.size ≤ maxLen) : HasSh (.str s) .str
  | sl (es : List (List T)) (l : List Sh) (h : es.length ≤ maxLen) (hs : ∀ e ∈ es, Shs e l) : HasSh (.sl false es) (.sl l)
inductive Shs : List T → List Sh → Prop
  | nil : Shs [] []
  | cons (x : T) (s : Sh) (xs : List T) (l : List Sh) (h : HasSh x s) (hs : Shs xs l) : Shs (x :: xs) (s :: l)
end
theorem Shs.length {xs : List T} {l : List Sh} (h : Shs xs l) : xs.length = l.length := by
  induction xs generalizing l with
  | nil => cases h; rfl
  | cons x xs ih => cases h with | cons _ _ _ _ _ hs => simp [ih hs]
theorem Shs.append {xs ys : List T} {l m : List Sh} (h : Shs xs l) (k : Shs ys m) : Shs (xs ++ ys) (l ++ m) := by
  induction xs generalizing l with
  | nil => cases h; exact k
  | cons x xs ih => cases h with | cons _ s _ l h hs => exact .cons x s _ _ h (ih hs)
def shFs (P : Program) (rec : TypeId → Option (List Sh)) : Nat → List Field → Option (List Sh)
  | _, [] => some []
  | off, f :: fs => match rec f.type with
    | none => none
    | some l => if f.offset = off ∧ P.cellsOf f.type = l.length then (shFs P rec (off + l.length) fs).map (l ++ ·) else none
def shOf (P : Program) : Nat → TypeId → Option (List Sh)
  | 0, _ => none
  | d + 1, t => match P.underlying t with
    | some .bool => some [.bool]
    | some (.int k) => some [.int k]
    | some .string => some [.str]
    | some (.slice e) => match shOf P d e with
      | some l => if P.cellsOf e = l.length ∧ l ≠ [] then some [.sl l] else none
      | none => none
    | some (.struct fs) => match shFs P (shOf P d) 0 fs.toList with
      | some l => if P.cellsOf t = l.length then some l else none
      | none => none
    | _ => none
def Opened (w : World) (cs : List Value) (l : List Sh) : Prop :=
  ∃ xs : List T, xs.length = cs.length ∧ Shs xs l ∧ ∀ (i : Nat) (x : T) (v : Value), xs[i]? = some x → cs[i]? = some v → TR (fun b => b < w.heap.size) w x v
theorem Opened.one {w : World} {v : Value} {x : T} {s : Sh} (h : HasSh x s) (t : TR (fun b => b < w.heap.size) w x v) : Opened w [v] [s] :=
  ⟨[x], rfl, .cons _ _ _ _ h .nil, fun i y u h1 h2 => by
    cases i with
    | zero => simp only [List.getElem?_cons_zero, Option.some.injEq] at h1 h2; subst h1; subst h2; exact t
    | succ i => simp at h1⟩
section
variable {H : Type} {enc : TypeId × Value → H} {P : Program} {w : World} {base : Nat} {spare : Nat → Bool} {held : Bool}
end
end Go.V
namespace Go.V
open Go
set_option linter.unusedVariables false
set_option linter.unusedSimpArgs false
def famL (w : Nat → Nat) (F : Nat → Option Blk) (n : Nat) : List (Nat × Option Blk) := (List.range n).map fun i => (w i, F i)
theorem I6 : ∀ (l m : List (Nat × Option Blk)) (h : Heap), app (l ++ m) h = app m (app l h)
  | [], m, h => rfl
  | (i, b) :: l, m, h => I6 l m (upd h i b)
theorem famL_succ {w : Nat → Nat} {F : Nat → Option Blk} {n : Nat} : famL w F (n + 1) = famL w F n ++ [(w n, F n)] := by
  unfold famL; rw [List.range_succ, List.map_append]; rfl
theorem famL_ids {w : Nat → Nat} {F : Nat → Option Blk} {n : Nat} : (famL w F n).map (·.1) = (List.range n).map w := by
  unfold famL; rw [List.map_map]; rfl
theorem V2 {w : Nat → Nat} {F : Nat → Option Blk} {n j : Nat} : j ∈ (famL w F n).map (·.1) ↔ ∃ i, i < n ∧ w i = j := by
  rw [famL_ids, List.mem_map]
  exact ⟨fun ⟨i, h1, h2⟩ => ⟨i, List.mem_range.1 h1, h2⟩, fun ⟨i, h1, h2⟩ => ⟨i, List.mem_range.2 h1, h2⟩⟩
theorem famO {w : Nat → Nat} {F : Nat → Option Blk} {n : Nat} {h : Heap} {id : Nat} (ho : ∀ i, i < n → w i ≠ id) : app (famL w F n) h id = h id :=
  N4 _ _ _ fun hm => by obtain ⟨i, h1, h2⟩ := V2.1 hm; exact ho i h1 h2
theorem famI {w : Nat → Nat} {F : Nat → Option Blk} {h : Heap} : ∀ {n i : Nat}, (∀ i j, i < n → j < n → w i = w j → i = j) → i < n → app (famL w F n) h (w i) = F i
  | n + 1, i, inj, hi => by
    rw [famL_succ, I6, appC, app0]
    by_cases e : i = n
    · subst e; exact updS rfl
    · rw [updN (fun e2 => e (inj i n hi (Nat.lt_succ_self n) e2))]
      exact famI (fun a b ha hb => inj a b (by omega) (by omega)) (by omega)
theorem BL {w : Nat → Nat} {F : Nat → Option Blk} {n m : Nat} {wr : List (Nat × Option Blk)} {h g : Heap} (hz : ∀ i, m ≤ i → h i = none)
    (h0 : ∀ i, i < n → g (w i) = app (wr ++ famL w F n) h (w i)) (h1 : ∀ j ∈ wr.map (·.1), g j = app (wr ++ famL w F n) h j)
    (h2 : ∀ j, j < m → (∀ i, i < n → w i ≠ j) → j ∉ wr.map (·.1) → g j = h j) : LessH (app (wr ++ famL w F n) h) g := by
  refine lessApp (n := m) hz (fun j hj => ?_) (fun j hj hn => ?_)
  · rw [List.map_append, List.mem_append] at hj
    rcases hj with hj | hj
    · exact h1 j hj
    · obtain ⟨i, hi, rfl⟩ := V2.1 hj; exact h0 i hi
  · rw [List.map_append, List.mem_append, not_or] at hn
    exact h2 j hj (fun i hi e => hn.2 (V2.2 ⟨i, hi, e⟩)) hn.1
theorem leFam {w : Nat → Nat} {F : Nat → Option Blk} {k n : Nat} {wr : List (Nat × Option Blk)} {h h' : Heap}
    (h0 : ∀ i, i < k → h' (w i) = app (wr ++ famL w F k) h (w i)) (h1 : ∀ j ∈ wr.map (·.1), h' j = app (wr ++ famL w F k) h j)
    (h2 : ∀ j, j < n → (∀ i, i < k → w i ≠ j) → j ∉ wr.map (·.1) → h' j = h j) : (∀ i, n ≤ i → h i = none) → ∀ id b, app (wr ++ famL w F k) h id = some b → h' id = some b := by
  refine K9 (fun j hj => ?_) (fun j hj hn => ?_)
  · rw [List.map_append, List.mem_append] at hj
    rcases hj with hj | hj
    · exact h1 j hj
    · obtain ⟨i, hi, rfl⟩ := V2.1 hj; exact h0 i hi
  · rw [List.map_append, List.mem_append, not_or] at hn
    exact h2 j hj (fun i hi e => hn.2 (V2.2 ⟨i, hi, e⟩)) hn.1
end Go.V
namespace Go.Proofs.Ytknnniaoboaghaa
open Go.V
set_option linter.unusedVariables false
set_option linter.unusedSimpArgs false
set_option maxRecDepth 20000
set_option maxHeartbeats 4000000
theorem s82 (a : An) : Pure En 82 [.agg a.T] [.one (.bool (decide a.OK))] := by
 refine Pure.of_wp Try.func82 rfl kb ?_
 refine A2 (A0 (J6 (u := .agg [.int _ _, .int _ _, .int _ _, .int _ _]) j3 rfl j3 (C4 j5 (A3 (A1 (A2 (A0 (C0 (off := 0) (s := 1) (r := false) j3 kz j3 (C6 (v := .int _ _) j2 rfl rfl j5 ?_)))))))))
 refine E7 (BP _ _ _) rfl j5 ?_ ?_ <;> intro h1_2
 ·refine C7 j5 (C0 (off := 1) (s := 1) (r := false) j3 kz j3 (C6 (v := .int _ _) j2 rfl rfl j5 ?_))
  refine E7 (BP _ _ _) rfl j5 ?_ ?_ <;> intro h1_6
  ·refine B7 (e := true) j6 (C7 j5 (C0 (off := 2) (s := 1) (r := false) j3 kz j3 (C6 (v := .int _ _) j2 rfl rfl j5 ?_)))
   refine E7 (BP _ _ _) rfl j5 ?_ ?_ <;> intro h1_11
   ·refine B7 (e := true) j6 (C7 j5 (C0 (off := 3) (s := 1) (r := false) j3 kz j3 (C6 (v := .int _ _) j2 rfl rfl j5 ?_)))
    refine E7 (BP _ _ _) rfl j5 ?_ ?_ <;> intro h1_16
    ·refine B7 (e := true) j6 (C4 j5 (A3 (A1 (B1 ?_))))
     first | (refine D3 rfl ?_; unfold An.OK; omega) | (refine C5 rfl ?_; unfold An.OK; omega)
    ·refine B7 (e := false) j6 (C4 j5 (A3 (A1 (B1 ?_))))
     first | (refine D3 rfl ?_; unfold An.OK; omega) | (refine C5 rfl ?_; unfold An.OK; omega)
   ·refine B7 (e := false) j6 (C7 j5 (A4 j3 (A4 j3 (A4 j3 (B7 (e := false) j6 (C4 j5 (A3 (A1 (B1 ?_)))))))))
    first | (refine D3 rfl ?_; unfold An.OK; omega) | (refine C5 rfl ?_; unfold An.OK; omega)
  ·refine B7 (e := false) j6 (C7 j5 (A4 j3 (A4 j3 (A4 j3 (B7 (e := false) j6 (C7 j5 (A4 j3 (A4 j3 (A4 j3 (B7 (e := false) j6 (C4 j5 (A3 ?_))))))))))))
   refine A1 (B1 ?_)
   first | (refine D3 rfl ?_; unfold An.OK; omega) | (refine C5 rfl ?_; unfold An.OK; omega)
 ·refine C7 j5 (A4 j3 (A4 j3 (A4 j3 (B7 (e := false) j6 (C7 j5 (A4 j3 (A4 j3 (A4 j3 (B7 (e := false) j6 (C7 j5 (A4 j3 (A4 j3 ?_))))))))))))
  refine A4 j3 (B7 (e := false) j6 (C4 j5 (A3 (A1 (B1 ?_)))))
  first | (refine D3 rfl ?_; unfold An.OK; omega) | (refine C5 rfl ?_; unfold An.OK; omega)
theorem s42 (t : Tb) (b n1 n2 : Bool) : Pure En 42 [.agg (t.T b n1 n2)] [.one (.bool (decide t.OK))] := by
 have hl : (t.lk.map (Lk.T b)).length = t.lk.length := List.length_map ..
 have hl2 : (t.sn.map Sn.T).length = t.sn.length := List.length_map ..
 refine Pure.of_wp Try.func42 rfl kb ?_
 refine A2 (A0 (J6 (u := .agg [.int _ _, .int _ _, _, _]) j3 rfl j3 (C4 j5 (A3 (A1 (A2 (A2 (A0 (C0 (off := 0) (s := 1) (r := false) j3 kz j3 ?_)))))))))
 (apply C6 (v := .int _ _) j2; exact Q0; rfl; exact j5)
 refine E7 (BP _ _ _) rfl j5 ?_ ?_ <;> intro h1_2
 ·refine D5 (c := true) j5 (C7 j5 (C0 (off := 1) (s := 1) (r := false) j3 kz j3 ?_))
  (apply C6 (v := .int _ _) j2; exact Q0; rfl; exact j5)
  refine E7 (BP _ _ _) rfl j5 ?_ ?_ <;> intro h1_7
  ·refine D5 (c := true) j5 (B7 (e := false) j6 (C7 j5 (C0 (off := 2) (s := 1) (r := false) j3 kz j3 ?_)))
   (apply C6 (v := .sl _ _ _) j2; exact Q0; rfl; exact j5)
   refine H9 rfl rfl rfl j3 ?_
   refine X1 j6 ?_ ?_ <;> intro h1_14
   ·refine B7 (e := true) j6 (C7 j5 (A4 j3 (A4 j3 (A4 j3 (A4 j3 (B7 (e := true) j6 (A3 (A1 (wT rfl (A2 (A0 (C4 j5 ?_))))))))))))
    refine A3 (A1 (B1 (B0 ?_)))
    refine C5 rfl fun hw => ?_; obtain ⟨w1, w2, w3, w4, w5, w6⟩ := hw; first | contradiction | omega
   ·refine B7 (e := false) j6 (C7 j5 (C0 (off := 3) (s := 1) (r := false) j3 kz j3 ?_))
    (apply C6 (v := .sl _ _ _) j2; exact Q0; rfl; exact j5)
    refine H9 rfl rfl rfl j3 ?_
    refine X1 j6 ?_ ?_ <;> intro h1_20
    ·refine B7 (e := true) j6 (A3 (A1 (wT rfl (A2 (A0 (C4 j5 (A3 (A1 (B1 (B0 ?_))))))))))
     refine C5 rfl fun hw => ?_; obtain ⟨w1, w2, w3, w4, w5, w6⟩ := hw; first | contradiction | omega
    ·refine B7 (e := false) j6 (A3 (A1 (wF rfl (B2 (A1 (A2 (A2 (A0 (D7 j5 (A3 (A1 (B4 ?_))))))))))))
     refine F6 ?_
     refine E8 (fun (a : Nat × Nat) => [.unk, .ptr 0 0 0, .unk, .int .i64 a.1]) (fun (a : Nat × Nat) => hp [(0, ⟨[[.int .i64 t.tm, .int .i64 t.nx, .sl false n1 (t.lk.map (Lk.T b)), .sl false n2 (t.sn.map Sn.T)]], 4, 35⟩)]) (fun (a : Nat × Nat) => a.2) (fun (a : Nat × Nat) => a.1 ≤ t.lk.length ∧ (∀ j, j < a.1 → lkAt t j) ∧ 1 ≤ a.2) (fun (a : Nat × Nat) => t.lk.length - a.1) (0, 1) ?_ ?_ ?_ ?_ ?_
     ·exact ⟨Nat.zero_le _, P7, Nat.le_refl _⟩
     ·(repeat first | exact LE.nil _ | refine LE.unk _ _ ?_ | refine LE.eq _ _ _ rfl ?_)
     ·(repeat first | exact E3 | (refine E6 ?_ ?_; exact U5))
     ·exact Nat.le_refl _
     intro ⟨i0, m0⟩ hI ih
     dsimp only at hI ⊢
     have hK0 := hI
     have ih0 := ih
     have hlw : ((t.lk.getD i0 Lk0).ws.map wtT).length = (t.lk.getD i0 Lk0).ws.length := List.length_map ..
     refine F5 (A2 (A2 (A0 (B5 j5 (C0 (off := 2) (s := 1) (r := false) j3 kz j3 ?_)))))
     (apply C6 (v := .sl _ _ _) j2; exact Q0; rfl; exact j5)
     refine H9 rfl rfl rfl j3 ?_
     refine I9 j6 ?_ ?_ <;> intro h4_4
     ·refine A3 (A1 (wT rfl (B2 (A1 (A2 (B4 (A2 (A0 (C0 (off := 2) (s := 1) (r := false) j3 kz j3 ?_)))))))))
      (apply C6 (v := .sl _ _ _) j2; exact Q0; rfl; exact j5)
      refine B5 j5 ?_
      (apply N6 j4; exact Q4; exact Q23; exact j4)
      refine S9 (vs := [.str _, .int _ _, .int _ _, .int _ _, _]) j3 kb j4 (H0 j6 ?_)
      (apply D2 (u := .agg [.str _, .int _ _, .int _ _, .int _ _, _]) j3; exact Q0; rfl; rfl; rfl; rfl; rfl; exact kb; rfl; exact j2)
      refine A3 (A1 (A2 (A2 (B9 [0, 1, 3, 7, 15, 31, 63, 127, 255, 511, 255, 1279, 4095, 8191, 16383, 255, 33023, 131071, 262143, 524287, 1048575, 2097151, 4194303, 2097151, 10485759, 27262975, 67108863, 134217727, 268435455, 536870911, 1073741823, 2147483647, 4294967295, 8589934591, 17179869183, 34359738367, 68719476735, 137438953471, 274877906943, 549755813887, 1099511627775, 2199023255551, 4398046511103, 8796093022207, 17592186044415, 35184372088831, 70368744177663] rfl (by decide +kernel) ?_))))
      refine C8 (off := 0) (s := 1) (r := false) j3 kz j3 ?_
      (apply D1 (v := .str _) j2; exact Q0; rfl; exact j5)
      refine Z9 (p85 _ _) rfl j5 ?_ ?_ <;> intro h7_2
      ·refine K7 (c := true) j5 (H1 j5 (I8 j5 ?_))
       refine dgt j6 ?_ ?_ <;> intro h7_6
       ·refine H1 j5 (C8 (off := 2) (s := 1) (r := false) j3 kz j3 ?_)
        (apply D1 (v := .sl _ _ _) j2; exact Q0; rfl; exact j5)
        refine I8 j5 (AY j3 ?_ ?_ j3 ?_)
        ·exact Q4
        ·exact Q4
        (apply Z8 j4; exact Q4; exact Q23; exact j4)
        refine dfai (off := 0) (s := 1) (r := false) j3 kz j4 (AM (v := .str _) j8 (C8 (off := 0) (s := 1) (r := false) j3 kz j3 ?_))
        (apply D1 (v := .str _) j2; exact Q0; rfl; exact j5)
        refine dsge j6 ?_ ?_ <;> intro h7_17
        ·refine F7 (e := true) j6 (F7 (e := true) j6 (H1 j5 (A5 j3 (A5 j3 (A5 j3 (A5 j3 (A5 j3 (A5 j3 (A5 j3 (F7 (e := true) j6 (H1 j5 (A5 j3 ?_))))))))))))
         refine A5 j3 (A5 j3 (A5 j3 (F7 (e := true) j6 (H1 j5 (A5 j3 (A5 j3 (A5 j3 (A5 j3 (F7 (e := true) j6 (H1 j5 (A5 j3 (A5 j3 ?_))))))))))))
         refine A5 j3 (A5 j3 (F7 (e := true) j6 (B3 47 [0, 0, 0, 0, 0, 0, 0, 0, 0, 0, 0, 0, 0, 0, 0, 0, 0, 0, 0, 0, 0, 0, 0, 0, 0, 0, 0, 0, 0, 0, 1, 0, 0, 0, 0, 0, 0, 1, 0, 0, 0, 0, 0, 0, 0, 1, 0] [] j2 (by decide +kernel) trivial ?_)))
         refine A1 (wT rfl (A2 (A0 (C4 j5 (A3 (A1 (B1 (B0 (A8 (B0 (D4 (A8 ?_))))))))))))
         refine B0 ?_
         refine C5 rfl fun hw => ?_
         obtain ⟨w1, w2, w3, w4, w5, w6⟩ := hw
         obtain ⟨⟨v1, v2, v3, v4, v5, v6, v7⟩, v8⟩ := w5 i0 (by omega)
         first
         | omega
         | exact h7_2 ⟨by have := v1.1; omega, v1.2⟩
         | (have v9 := v8 (by omega); unfold ltS at v9; rw [E2, v9] at h7_17; cases h7_17)
        ·refine F7 (e := false) j6 (F7 (e := false) j6 (H1 j5 (C8 (off := 1) (s := 1) (r := false) j3 kz j3 ?_)))
         (apply D1 (v := .int _ _) j2; exact Q0; rfl; exact j5)
         refine C8 (off := 1) (s := 1) (r := false) j3 kz j3 ?_
         (apply D1 (v := .int _ _) j2; exact Q0; rfl; exact j5)
         refine AY j3 ?_ ?_ j3 ?_
         ·exact Q4
         ·exact Q4
         refine Z9 (BP _ _ _) rfl j5 ?_ ?_ <;> intro h7_26
         ·refine K7 (c := true) j5 (F7 (e := false) j6 (H1 j5 (C8 (off := 2) (s := 1) (r := false) j3 kz j3 ?_)))
          (apply D1 (v := .int _ _) j2; exact Q0; rfl; exact j5)
          refine Z9 (BP _ _ _) rfl j5 ?_ ?_ <;> intro h7_32
          ·refine K7 (c := true) j5 (F7 (e := false) j6 (H1 j5 (C8 (off := 3) (s := 1) (r := false) j3 kz j3 ?_)))
           (apply D1 (v := .int _ _) j2; exact Q0; rfl; exact j5)
           refine Z9 (BP _ _ _) rfl j5 ?_ ?_ <;> intro h7_38
           ·refine K7 (c := true) j5 (F7 (e := false) j6 (H1 j5 (C8 (off := 4) (s := 1) (r := false) j3 kz j3 ?_)))
            (apply D1 (v := .sl _ _ _) j2; exact Q0; rfl; exact j5)
            refine dll rfl rfl rfl j3 ?_
            refine dgt j6 ?_ ?_ <;> intro h7_45
            ·refine F7 (e := true) j6 (B3 47 [0, 0, 0, 1, 0, 0, 0, 0, 0, 1, 0, 0, 0, 0, 0, 1, 0, 0, 0, 0, 0, 0, 1, 0, 1, 0, 0, 0, 0, 0, 1, 0, 0, 0, 0, 0, 0, 1, 0, 0, 0, 0, 0, 0, 0, 1, 0] [] j2 (by decide +kernel) trivial ?_)
             refine A1 (wT rfl (A2 (A0 (C4 j5 (A3 (A1 (B1 (B0 (A8 (B0 (D4 (A8 ?_))))))))))))
             refine B0 ?_
             refine C5 rfl fun hw => ?_
             obtain ⟨w1, w2, w3, w4, w5, w6⟩ := hw
             obtain ⟨⟨v1, v2, v3, v4, v5, v6, v7⟩, v8⟩ := w5 i0 (by omega)
             first
             | omega
             | exact h7_2 ⟨by have := v1.1; omega, v1.2⟩
             | (have v9 := v8 (by omega); unfold ltS at v9; rw [E2, v9] at h7_17; cases h7_17)
            ·refine F7 (e := false) j6 (B3 47 [0, 0, 0, 1, 0, 0, 0, 0, 0, 1, 0, 0, 0, 0, 0, 1, 0, 0, 0, 0, 0, 0, 1, 0, 1, 0, 0, 0, 0, 0, 1, 0, 0, 0, 0, 0, 0, 1, 0, 0, 0, 0, 0, 0, 0, 1, 0] [] j2 (by decide +kernel) trivial ?_)
             refine A1 (wF rfl (B2 (A1 (A2 (A2 (A0 (C0 (off := 2) (s := 1) (r := false) j3 kz j3 ?_)))))))
             (apply C6 (v := .int _ _) j2; exact Q0; rfl; exact j5)
             refine I9 j6 ?_ ?_ <;> intro h9_2
             ·refine C7 j5 (C0 (off := 3) (s := 1) (r := false) j3 kz j3 ?_)
              (apply C6 (v := .int _ _) j2; exact Q0; rfl; exact j5)
              refine rne j6 ?_ ?_ <;> intro h9_6
              ·refine C7 j5 (A4 j3 (A4 j3 (A4 j3 (A4 j3 (B7 (e := true) j6 (B7 (e := true) j6 (A3 (A1 (wT rfl (A2 (A0 (C4 j5 ?_))))))))))))
               refine A3 (A1 (B1 (B0 (A8 (B0 (D4 (A8 (B0 ?_))))))))
               refine C5 rfl fun hw => ?_
               obtain ⟨w1, w2, w3, w4, w5, w6⟩ := hw
               obtain ⟨⟨v1, v2, v3, v4, v5, v6, v7⟩, v8⟩ := w5 i0 (by omega)
               have v9 := v6 (by omega)
               omega
              ·refine C7 j5 (C0 (off := 4) (s := 1) (r := false) j3 kz j3 ?_)
               (apply C6 (v := .sl _ _ _) j2; exact Q0; rfl; exact j5)
               refine H9 rfl rfl rfl j3 ?_
               refine rne j6 ?_ ?_ <;> intro h9_11
               ·refine B7 (e := true) j6 (B7 (e := true) j6 (A3 (A1 (wT rfl (A2 (A0 (C4 j5 (A3 (A1 (B1 (B0 (A8 ?_))))))))))))
                refine B0 (D4 (A8 (B0 ?_)))
                refine C5 rfl fun hw => ?_
                obtain ⟨w1, w2, w3, w4, w5, w6⟩ := hw
                obtain ⟨⟨v1, v2, v3, v4, v5, v6, v7⟩, v8⟩ := w5 i0 (by omega)
                have v9 := v6 (by omega)
                omega
               ·refine B7 (e := false) j6 (B7 (e := false) j6 (A3 (A1 (wF rfl (B2 (A1 (A2 (A0 (D7 j5 (A3 (A1 (B4 ?_))))))))))))
                refine F6 ?_
                refine E8 (fun (a : Nat × Nat) => [.unk, .ptr 0 0 0, .unk, .int .i64 i0, .ptr m0 0 0, .int .i64 a.1]) (fun (a : Nat × Nat) => hp [(0, ⟨[[.int .i64 t.tm, .int .i64 t.nx, .sl false n1 (t.lk.map (Lk.T b)), .sl false n2 (t.sn.map Sn.T)]], 4, 35⟩), (m0, ⟨[[.str (t.lk.getD i0 Lk0).nm, .int .i64 (t.lk.getD i0 Lk0).tk, .int .i64 (t.lk.getD i0 Lk0).hd, .int .i64 (t.lk.getD i0 Lk0).ex, .sl false b ((t.lk.getD i0 Lk0).ws.map wtT)]], 5, 29⟩)]) (fun (a : Nat × Nat) => a.2) (fun (a : Nat × Nat) => a.1 ≤ (t.lk.getD i0 Lk0).ws.length ∧ (∀ j, j < a.1 → wOK (t.lk.getD i0 Lk0) j) ∧ m0 < a.2) (fun (a : Nat × Nat) => (t.lk.getD i0 Lk0).ws.length - a.1) (0, m0 + 1) ?_ ?_ ?_ ?_ ?_
                ·exact ⟨Nat.zero_le _, P7, Nat.lt_succ_self _⟩
                ·(repeat first | exact LE.nil _ | refine LE.unk _ _ ?_ | refine LE.eq _ _ _ rfl ?_)
                ·(repeat first | exact E3 | (refine E6 ?_ ?_; exact U5))
                ·exact Nat.le_refl _
                intro ⟨k, m1⟩ hI ih
                dsimp only at hI ⊢
                have hK1 := hI
                have ih1 := ih
                refine F5 (A2 (A2 (A0 (B5 j5 (C0 (off := 4) (s := 1) (r := false) j3 kz j3 ?_)))))
                (apply C6 (v := .sl _ _ _) j2; exact Q0; rfl; exact j5)
                refine H9 rfl rfl rfl j3 ?_
                refine I9 j6 ?_ ?_ <;> intro h12_4
                ·refine A3 (A1 (wT rfl (B2 (A1 (A2 (B4 (A2 ?_)))))))
                 exact absurd h12_4 (by omega)
                ·refine A3 (A1 (wF rfl (E9 (F0 (D8 (C9 (C2 (A1 (A0 (B5 j5 (D0 j3 ?_ ?_ j3 ?_)))))))))))
                 ·exact Q4
                 ·exact Q4
                 refine D7 j5 (A3 (E5 ?_))
                 refine J7 (ih0 (i0 + 1, m1) ⟨by dsimp only; omega, N3 hK0.2.1 ⟨⟨⟨by have := h7_2.1; omega, h7_2.2⟩, by omega, by omega, by omega, by omega, fun he => by omega, fun j hj => hI.2.1 j (by omega)⟩, fun h0 => ?_⟩, by dsimp only; omega⟩ (by dsimp only; omega)) (by (repeat first | exact LE.nil _ | refine LE.unk _ _ ?_ | refine LE.eq _ _ _ rfl ?_)) (by (repeat first | exact E3 | (refine E6 ?_ ?_; exact U5))) (Nat.le_refl _)
                 first | omega | (rw [E2] at h7_17; unfold ltS; simpa using h7_17)
             ·refine C7 j5 (A4 j3 (A4 j3 (A4 j3 (A4 j3 (A4 j3 (A4 j3 (A4 j3 (A4 j3 (A4 j3 (B7 (e := false) j6 (A3 (A1 ?_))))))))))))
              refine wF rfl (B2 (A1 (A2 (A0 (D7 j5 (A3 (A1 (B4 (F6 ?_)))))))))
              refine E8 (fun (a : Nat × Nat) => [.unk, .ptr 0 0 0, .unk, .int .i64 i0, .ptr m0 0 0, .int .i64 a.1]) (fun (a : Nat × Nat) => hp [(0, ⟨[[.int .i64 t.tm, .int .i64 t.nx, .sl false n1 (t.lk.map (Lk.T b)), .sl false n2 (t.sn.map Sn.T)]], 4, 35⟩), (m0, ⟨[[.str (t.lk.getD i0 Lk0).nm, .int .i64 (t.lk.getD i0 Lk0).tk, .int .i64 (t.lk.getD i0 Lk0).hd, .int .i64 (t.lk.getD i0 Lk0).ex, .sl false b ((t.lk.getD i0 Lk0).ws.map wtT)]], 5, 29⟩)]) (fun (a : Nat × Nat) => a.2) (fun (a : Nat × Nat) => a.1 ≤ (t.lk.getD i0 Lk0).ws.length ∧ (∀ j, j < a.1 → wOK (t.lk.getD i0 Lk0) j) ∧ m0 < a.2) (fun (a : Nat × Nat) => (t.lk.getD i0 Lk0).ws.length - a.1) (0, m0 + 1) ?_ ?_ ?_ ?_ ?_
              ·exact ⟨Nat.zero_le _, P7, Nat.lt_succ_self _⟩
              ·(repeat first | exact LE.nil _ | refine LE.unk _ _ ?_ | refine LE.eq _ _ _ rfl ?_)
              ·(repeat first | exact E3 | (refine E6 ?_ ?_; exact U5))
              ·exact Nat.le_refl _
              intro ⟨k, m1⟩ hI ih
              dsimp only at hI ⊢
              have hK1 := hI
              have ih1 := ih
              refine F5 (A2 (A2 (A0 (B5 j5 (C0 (off := 4) (s := 1) (r := false) j3 kz j3 ?_)))))
              (apply C6 (v := .sl _ _ _) j2; exact Q0; rfl; exact j5)
              refine H9 rfl rfl rfl j3 ?_
              refine I9 j6 ?_ ?_ <;> intro h12_4
              ·refine A3 (A1 (wT rfl (B2 (A1 (A2 (B4 (A2 (A0 (C0 (off := 4) (s := 1) (r := false) j3 kz j3 ?_)))))))))
               (apply C6 (v := .sl _ _ _) j2; exact Q0; rfl; exact j5)
               refine B5 j5 ?_
               (apply N6 j4; exact Q4; exact Q23; exact j4)
               refine S9 (vs := [.int _ _, .int _ _]) j3 kb j4 (H0 j6 ?_)
               (apply D2 (u := .agg [.int _ _, .int _ _]) j3; exact Q0; rfl; rfl; rfl; rfl; rfl; exact kb; rfl; exact j2)
               refine A3 (A1 (A2 (A2 (A0 (C0 (off := 0) (s := 1) (r := false) j3 kz j3 ?_)))))
               (apply C6 (v := .int _ _) j2; exact Q0; rfl; exact j5)
               refine E7 (BP _ _ _) rfl j5 ?_ ?_ <;> intro h15_2
               ·refine D5 (c := true) j5 (C7 j5 (C0 (off := 1) (s := 1) (r := false) j3 kz j3 ?_))
                (apply C6 (v := .int _ _) j2; exact Q0; rfl; exact j5)
                refine E7 (BP _ _ _) rfl j5 ?_ ?_ <;> intro h15_7
                ·refine D5 (c := true) j5 (B7 (e := false) j6 (C7 j5 (C0 (off := 0) (s := 1) (r := false) j3 kz j3 ?_)))
                 (apply C6 (v := .int _ _) j2; exact Q0; rfl; exact j5)
                 refine C0 (off := 2) (s := 1) (r := false) j3 kz j3 ?_
                 (apply C6 (v := .int _ _) j2; exact Q0; rfl; exact j5)
                 refine I1 j6 ?_ ?_ <;> intro h15_15
                 ·refine B7 (e := true) j6 (A3 (A1 (wT rfl (A2 (A0 (C4 j5 (A3 (A1 (B1 (B0 (A8 (B0 ?_))))))))))))
                  refine D4 (A8 (A8 (B0 (D4 (A8 (B0 ?_))))))
                  refine C5 rfl fun hw => ?_
                  obtain ⟨w1, w2, w3, w4, w5, w6⟩ := hw
                  obtain ⟨⟨v1, v2, v3, v4, v5, v6, v7⟩, v8⟩ := w5 i0 (by omega)
                  obtain ⟨u1, u2, u3, u4⟩ := v7 k (by omega)
                  first | omega | contradiction
                 ·refine B7 (e := false) j6 (A3 (A1 (wF rfl (B2 (A1 (A2 (A0 (D7 j5 (A3 (A1 (B4 (F6 ?_))))))))))))
                  refine E8 (fun (q : Nat) => [.unk, .ptr 0 0 0, .unk, .int .i64 i0, .ptr m0 0 0, .int .i64 k, .ptr m1 0 0, .int .i64 q]) (fun (q : Nat) => hp [(0, ⟨[[.int .i64 t.tm, .int .i64 t.nx, .sl false n1 (t.lk.map (Lk.T b)), .sl false n2 (t.sn.map Sn.T)]], 4, 35⟩), (m0, ⟨[[.str (t.lk.getD i0 Lk0).nm, .int .i64 (t.lk.getD i0 Lk0).tk, .int .i64 (t.lk.getD i0 Lk0).hd, .int .i64 (t.lk.getD i0 Lk0).ex, .sl false b ((t.lk.getD i0 Lk0).ws.map wtT)]], 5, 29⟩), (m1, ⟨[[.int .i64 ((t.lk.getD i0 Lk0).ws.getD k (0, 0)).1, .int .i64 ((t.lk.getD i0 Lk0).ws.getD k (0, 0)).2]], 2, 123⟩)]) (fun (q : Nat) => m1 + 1) (fun (q : Nat) => q ≤ k ∧ ∀ j, j < q → ¬ ((t.lk.getD i0 Lk0).ws.getD j (0, 0)).1 = ((t.lk.getD i0 Lk0).ws.getD k (0, 0)).1) (fun (q : Nat) => k - q) 0 ?_ ?_ ?_ ?_ ?_
                  ·exact ⟨Nat.zero_le _, P7⟩
                  ·(repeat first | exact LE.nil _ | refine LE.unk _ _ ?_ | refine LE.eq _ _ _ rfl ?_)
                  ·(repeat first | exact E3 | (refine E6 ?_ ?_; exact U5))
                  ·exact Nat.le_refl _
                  intro q hI ih
                  refine F5 (A2 (A2 (A0 (B5 j5 (B5 j5 ?_)))))
                  refine I9 j6 ?_ ?_ <;> intro h18_2
                  ·refine A3 (A1 (wT rfl (B2 (A1 (A2 (B4 (A2 (B9 [0, 1, 0, 7, 15, 31, 0, 64, 255] rfl (by decide +kernel) ?_))))))))
                   refine C8 (off := 4) (s := 1) (r := false) j3 kz j3 ?_
                   (apply D1 (v := .sl _ _ _) j2; exact Q0; rfl; exact j5)
                   refine I8 j5 ?_
                   (apply Z8 j4; exact Q4; exact Q23; exact j4)
                   refine dfai (off := 0) (s := 1) (r := false) j3 kz j4 (AM (v := .int _ _) j8 (C8 (off := 0) (s := 1) (r := false) j3 kz j3 ?_))
                   (apply D1 (v := .int _ _) j2; exact Q0; rfl; exact j5)
                   refine deq j6 ?_ ?_ <;> intro h20_8
                   ·refine B3 9 [0, 1, 0, 0, 0, 0, 0, 1, 0] [] j2 (by decide +kernel) trivial ?_
                    refine A1 (wT rfl (A2 (A0 (C4 j5 (A3 (A1 (B1 (A8 (B0 (D4 (A8 (A8 ?_))))))))))))
                    refine B0 (D4 (A8 (A8 (B0 (D4 (A8 (B0 ?_)))))))
                    refine C5 rfl fun hw => ?_
                    obtain ⟨w1, w2, w3, w4, w5, w6⟩ := hw
                    obtain ⟨⟨v1, v2, v3, v4, v5, v6, v7⟩, v8⟩ := w5 i0 (by omega)
                    obtain ⟨u1, u2, u3, u4⟩ := v7 k (by omega)
                    exact u4 q (by omega) h20_8
                   ·refine B3 9 [0, 1, 0, 0, 0, 0, 0, 1, 0] [] j2 (by decide +kernel) trivial ?_
                    refine A1 (wF rfl (B2 (C2 (A1 (A0 (B5 j5 (D0 j3 ?_ ?_ j3 ?_)))))))
                    ·exact Q4
                    ·exact Q4
                    refine D7 j5 (A3 (E5 ?_))
                    exact J7 (ih (q + 1) ⟨by omega, N3 hI.2 h20_8⟩ (by omega)) (by (repeat first | exact LE.nil _ | refine LE.unk _ _ ?_ | refine LE.eq _ _ _ rfl ?_)) (by (repeat first | exact E3 | (refine E6 ?_ ?_; exact U5))) (Nat.le_refl _)
                  ·refine A3 (A1 (wF rfl (E9 (F0 (D8 (C9 (C2 (A1 (A0 (B5 j5 (D0 j3 ?_ ?_ j3 ?_)))))))))))
                   ·exact Q4
                   ·exact Q4
                   refine D7 j5 (A3 (E5 ?_))
                   exact J7 (ih1 (k + 1, m1 + 1) ⟨by dsimp only; omega, N3 hK1.2.1 ⟨h15_2, by assumption, h15_7, fun j hj => hI.2 j (by omega)⟩, by dsimp only; omega⟩ (by dsimp only; omega)) (by (repeat first | exact LE.nil _ | refine LE.unk _ _ ?_ | refine LE.eq _ _ _ rfl ?_)) (by (repeat first | exact E3 | (refine E6 ?_ ?_; exact U5))) (Nat.le_refl _)
                ·refine D5 (c := false) j5 (B7 (e := true) j6 (C7 j5 (A4 j3 (A4 j3 (A4 j3 (A4 j3 (A4 j3 (B7 (e := true) j6 (A3 (A1 (wT rfl (A2 ?_))))))))))))
                 refine A0 (C4 j5 (A3 (A1 (B1 (B0 (A8 (B0 (D4 (A8 (A8 (B0 (D4 ?_))))))))))))
                 refine A8 (B0 ?_)
                 refine C5 rfl fun hw => ?_
                 obtain ⟨w1, w2, w3, w4, w5, w6⟩ := hw
                 obtain ⟨⟨v1, v2, v3, v4, v5, v6, v7⟩, v8⟩ := w5 i0 (by omega)
                 obtain ⟨u1, u2, u3, u4⟩ := v7 k (by omega)
                 first | omega | contradiction
               ·refine D5 (c := false) j5 (C7 j5 (A4 j3 (A4 j3 (A4 j3 (A4 j3 (B7 (e := true) j6 (C7 j5 (A4 j3 (A4 j3 (A4 j3 (A4 j3 (A4 j3 ?_))))))))))))
                refine B7 (e := true) j6 (A3 (A1 (wT rfl (A2 (A0 (C4 j5 (A3 (A1 (B1 (B0 (A8 (B0 ?_))))))))))))
                refine D4 (A8 (A8 (B0 (D4 (A8 (B0 ?_))))))
                refine C5 rfl fun hw => ?_
                obtain ⟨w1, w2, w3, w4, w5, w6⟩ := hw
                obtain ⟨⟨v1, v2, v3, v4, v5, v6, v7⟩, v8⟩ := w5 i0 (by omega)
                obtain ⟨u1, u2, u3, u4⟩ := v7 k (by omega)
                first | omega | contradiction
              ·refine A3 (A1 (wF rfl (E9 (F0 (D8 (C9 (C2 (A1 (A0 (B5 j5 (D0 j3 ?_ ?_ j3 ?_)))))))))))
               ·exact Q4
               ·exact Q4
               refine D7 j5 (A3 (E5 ?_))
               refine J7 (ih0 (i0 + 1, m1) ⟨by dsimp only; omega, N3 hK0.2.1 ⟨⟨⟨by have := h7_2.1; omega, h7_2.2⟩, by omega, by omega, by omega, by omega, fun he => by omega, fun j hj => hI.2.1 j (by omega)⟩, fun h0 => ?_⟩, by dsimp only; omega⟩ (by dsimp only; omega)) (by (repeat first | exact LE.nil _ | refine LE.unk _ _ ?_ | refine LE.eq _ _ _ rfl ?_)) (by (repeat first | exact E3 | (refine E6 ?_ ?_; exact U5))) (Nat.le_refl _)
               first | omega | (rw [E2] at h7_17; unfold ltS; simpa using h7_17)
           ·refine K7 (c := false) j5 (F7 (e := true) j6 (H1 j5 (A5 j3 (A5 j3 (A5 j3 (A5 j3 (F7 (e := true) j6 (B3 47 [0, 0, 0, 0, 0, 0, 0, 0, 0, 1, 0, 0, 0, 0, 0, 1, 0, 0, 0, 0, 0, 0, 1, 0, 1, 0, 0, 0, 0, 0, 1, 0, 0, 0, 0, 0, 0, 1, 0, 0, 0, 0, 0, 0, 0, 1, 0] [] j2 (by decide +kernel) trivial ?_))))))))
            refine A1 (wT rfl (A2 (A0 (C4 j5 (A3 (A1 (B1 (B0 (A8 (B0 (D4 (A8 ?_))))))))))))
            refine B0 ?_
            refine C5 rfl fun hw => ?_
            obtain ⟨w1, w2, w3, w4, w5, w6⟩ := hw
            obtain ⟨⟨v1, v2, v3, v4, v5, v6, v7⟩, v8⟩ := w5 i0 (by omega)
            first
            | omega
            | exact h7_2 ⟨by have := v1.1; omega, v1.2⟩
            | (have v9 := v8 (by omega); unfold ltS at v9; rw [E2, v9] at h7_17; cases h7_17)
          ·refine K7 (c := false) j5 (F7 (e := true) j6 (H1 j5 (A5 j3 (A5 j3 (A5 j3 (A5 j3 (F7 (e := true) j6 (H1 j5 (A5 j3 (A5 j3 (A5 j3 (A5 j3 ?_))))))))))))
           refine F7 (e := true) j6 (B3 47 [0, 0, 0, 0, 0, 0, 0, 0, 0, 0, 0, 0, 0, 0, 0, 1, 0, 0, 0, 0, 0, 0, 1, 0, 1, 0, 0, 0, 0, 0, 1, 0, 0, 0, 0, 0, 0, 1, 0, 0, 0, 0, 0, 0, 0, 1, 0] [] j2 (by decide +kernel) trivial ?_)
           refine A1 (wT rfl (A2 (A0 (C4 j5 (A3 (A1 (B1 (B0 (A8 (B0 (D4 (A8 ?_))))))))))))
           refine B0 ?_
           refine C5 rfl fun hw => ?_
           obtain ⟨w1, w2, w3, w4, w5, w6⟩ := hw
           obtain ⟨⟨v1, v2, v3, v4, v5, v6, v7⟩, v8⟩ := w5 i0 (by omega)
           first
           | omega
           | exact h7_2 ⟨by have := v1.1; omega, v1.2⟩
           | (have v9 := v8 (by omega); unfold ltS at v9; rw [E2, v9] at h7_17; cases h7_17)
         ·refine K7 (c := false) j5 (F7 (e := true) j6 (H1 j5 (A5 j3 (A5 j3 (A5 j3 (A5 j3 (F7 (e := true) j6 (H1 j5 (A5 j3 (A5 j3 (A5 j3 (A5 j3 ?_))))))))))))
          refine F7 (e := true) j6 (H1 j5 (A5 j3 (A5 j3 (A5 j3 (A5 j3 (F7 (e := true) j6 (B3 47 [0, 0, 0, 0, 0, 0, 0, 0, 0, 0, 0, 0, 0, 0, 0, 0, 0, 0, 0, 0, 0, 0, 1, 0, 1, 0, 0, 0, 0, 0, 1, 0, 0, 0, 0, 0, 0, 1, 0, 0, 0, 0, 0, 0, 0, 1, 0] [] j2 (by decide +kernel) trivial ?_)))))))
          refine A1 (wT rfl (A2 (A0 (C4 j5 (A3 (A1 (B1 (B0 (A8 (B0 (D4 (A8 ?_))))))))))))
          refine B0 ?_
          refine C5 rfl fun hw => ?_
          obtain ⟨w1, w2, w3, w4, w5, w6⟩ := hw
          obtain ⟨⟨v1, v2, v3, v4, v5, v6, v7⟩, v8⟩ := w5 i0 (by omega)
          first
          | omega
          | exact h7_2 ⟨by have := v1.1; omega, v1.2⟩
          | (have v9 := v8 (by omega); unfold ltS at v9; rw [E2, v9] at h7_17; cases h7_17)
       ·refine H1 j5 (A5 j3 (A5 j3 (A5 j3 (A5 j3 (A5 j3 (A5 j3 (A5 j3 (A5 j3 (A5 j3 (A5 j3 (F7 (e := false) j6 (F7 (e := false) j6 ?_))))))))))))
        refine H1 j5 (C8 (off := 1) (s := 1) (r := false) j3 kz j3 ?_)
        (apply D1 (v := .int _ _) j2; exact Q0; rfl; exact j5)
        refine C8 (off := 1) (s := 1) (r := false) j3 kz j3 ?_
        (apply D1 (v := .int _ _) j2; exact Q0; rfl; exact j5)
        refine AY j3 ?_ ?_ j3 ?_
        ·exact Q4
        ·exact Q4
        refine Z9 (BP _ _ _) rfl j5 ?_ ?_ <;> intro h7_26
        ·refine K7 (c := true) j5 (F7 (e := false) j6 (H1 j5 (C8 (off := 2) (s := 1) (r := false) j3 kz j3 ?_)))
         (apply D1 (v := .int _ _) j2; exact Q0; rfl; exact j5)
         refine Z9 (BP _ _ _) rfl j5 ?_ ?_ <;> intro h7_32
         ·refine K7 (c := true) j5 (F7 (e := false) j6 (H1 j5 (C8 (off := 3) (s := 1) (r := false) j3 kz j3 ?_)))
          (apply D1 (v := .int _ _) j2; exact Q0; rfl; exact j5)
          refine Z9 (BP _ _ _) rfl j5 ?_ ?_ <;> intro h7_38
          ·refine K7 (c := true) j5 (F7 (e := false) j6 (H1 j5 (C8 (off := 4) (s := 1) (r := false) j3 kz j3 ?_)))
           (apply D1 (v := .sl _ _ _) j2; exact Q0; rfl; exact j5)
           refine dll rfl rfl rfl j3 ?_
           refine dgt j6 ?_ ?_ <;> intro h7_45
           ·refine F7 (e := true) j6 (B3 47 [0, 0, 0, 1, 0, 0, 0, 0, 0, 1, 0, 0, 0, 0, 0, 1, 0, 0, 0, 0, 0, 0, 1, 0, 1, 0, 0, 0, 0, 0, 0, 0, 0, 0, 0, 0, 0, 0, 0, 0, 0, 0, 0, 0, 0, 1, 0] [] j2 (by decide +kernel) trivial ?_)
            refine A1 (wT rfl (A2 (A0 (C4 j5 (A3 (A1 (B1 (B0 (A8 (B0 (D4 (A8 ?_))))))))))))
            refine B0 ?_
            refine C5 rfl fun hw => ?_
            obtain ⟨w1, w2, w3, w4, w5, w6⟩ := hw
            obtain ⟨⟨v1, v2, v3, v4, v5, v6, v7⟩, v8⟩ := w5 i0 (by omega)
            first
            | omega
            | exact h7_2 ⟨by have := v1.1; omega, v1.2⟩
            | (have v9 := v8 (by omega); unfold ltS at v9; rw [E2, v9] at h7_17; cases h7_17)
           ·refine F7 (e := false) j6 (B3 47 [0, 0, 0, 1, 0, 0, 0, 0, 0, 1, 0, 0, 0, 0, 0, 1, 0, 0, 0, 0, 0, 0, 1, 0, 1, 0, 0, 0, 0, 0, 0, 0, 0, 0, 0, 0, 0, 0, 0, 0, 0, 0, 0, 0, 0, 1, 0] [] j2 (by decide +kernel) trivial ?_)
            refine A1 (wF rfl (B2 (A1 (A2 (A2 (A0 (C0 (off := 2) (s := 1) (r := false) j3 kz j3 ?_)))))))
            (apply C6 (v := .int _ _) j2; exact Q0; rfl; exact j5)
            refine I9 j6 ?_ ?_ <;> intro h9_2
            ·refine C7 j5 (C0 (off := 3) (s := 1) (r := false) j3 kz j3 ?_)
             (apply C6 (v := .int _ _) j2; exact Q0; rfl; exact j5)
             refine rne j6 ?_ ?_ <;> intro h9_6
             ·refine C7 j5 (A4 j3 (A4 j3 (A4 j3 (A4 j3 (B7 (e := true) j6 (B7 (e := true) j6 (A3 (A1 (wT rfl (A2 (A0 (C4 j5 ?_))))))))))))
              refine A3 (A1 (B1 (B0 (A8 (B0 (D4 (A8 (B0 ?_))))))))
              refine C5 rfl fun hw => ?_
              obtain ⟨w1, w2, w3, w4, w5, w6⟩ := hw
              obtain ⟨⟨v1, v2, v3, v4, v5, v6, v7⟩, v8⟩ := w5 i0 (by omega)
              have v9 := v6 (by omega)
              omega
             ·refine C7 j5 (C0 (off := 4) (s := 1) (r := false) j3 kz j3 ?_)
              (apply C6 (v := .sl _ _ _) j2; exact Q0; rfl; exact j5)
              refine H9 rfl rfl rfl j3 ?_
              refine rne j6 ?_ ?_ <;> intro h9_11
              ·refine B7 (e := true) j6 (B7 (e := true) j6 (A3 (A1 (wT rfl (A2 (A0 (C4 j5 (A3 (A1 (B1 (B0 (A8 ?_))))))))))))
               refine B0 (D4 (A8 (B0 ?_)))
               refine C5 rfl fun hw => ?_
               obtain ⟨w1, w2, w3, w4, w5, w6⟩ := hw
               obtain ⟨⟨v1, v2, v3, v4, v5, v6, v7⟩, v8⟩ := w5 i0 (by omega)
               have v9 := v6 (by omega)
               omega
              ·refine B7 (e := false) j6 (B7 (e := false) j6 (A3 (A1 (wF rfl (B2 (A1 (A2 (A0 (D7 j5 (A3 (A1 (B4 ?_))))))))))))
               refine F6 ?_
               refine E8 (fun (a : Nat × Nat) => [.unk, .ptr 0 0 0, .unk, .int .i64 i0, .ptr m0 0 0, .int .i64 a.1]) (fun (a : Nat × Nat) => hp [(0, ⟨[[.int .i64 t.tm, .int .i64 t.nx, .sl false n1 (t.lk.map (Lk.T b)), .sl false n2 (t.sn.map Sn.T)]], 4, 35⟩), (m0, ⟨[[.str (t.lk.getD i0 Lk0).nm, .int .i64 (t.lk.getD i0 Lk0).tk, .int .i64 (t.lk.getD i0 Lk0).hd, .int .i64 (t.lk.getD i0 Lk0).ex, .sl false b ((t.lk.getD i0 Lk0).ws.map wtT)]], 5, 29⟩)]) (fun (a : Nat × Nat) => a.2) (fun (a : Nat × Nat) => a.1 ≤ (t.lk.getD i0 Lk0).ws.length ∧ (∀ j, j < a.1 → wOK (t.lk.getD i0 Lk0) j) ∧ m0 < a.2) (fun (a : Nat × Nat) => (t.lk.getD i0 Lk0).ws.length - a.1) (0, m0 + 1) ?_ ?_ ?_ ?_ ?_
               ·exact ⟨Nat.zero_le _, P7, Nat.lt_succ_self _⟩
               ·(repeat first | exact LE.nil _ | refine LE.unk _ _ ?_ | refine LE.eq _ _ _ rfl ?_)
               ·(repeat first | exact E3 | (refine E6 ?_ ?_; exact U5))
               ·exact Nat.le_refl _
               intro ⟨k, m1⟩ hI ih
               dsimp only at hI ⊢
               have hK1 := hI
               have ih1 := ih
               refine F5 (A2 (A2 (A0 (B5 j5 (C0 (off := 4) (s := 1) (r := false) j3 kz j3 ?_)))))
               (apply C6 (v := .sl _ _ _) j2; exact Q0; rfl; exact j5)
               refine H9 rfl rfl rfl j3 ?_
               refine I9 j6 ?_ ?_ <;> intro h12_4
               ·refine A3 (A1 (wT rfl (B2 (A1 (A2 (B4 (A2 ?_)))))))
                exact absurd h12_4 (by omega)
               ·refine A3 (A1 (wF rfl (E9 (F0 (D8 (C9 (C2 (A1 (A0 (B5 j5 (D0 j3 ?_ ?_ j3 ?_)))))))))))
                ·exact Q4
                ·exact Q4
                refine D7 j5 (A3 (E5 ?_))
                refine J7 (ih0 (i0 + 1, m1) ⟨by dsimp only; omega, N3 hK0.2.1 ⟨⟨⟨by have := h7_2.1; omega, h7_2.2⟩, by omega, by omega, by omega, by omega, fun he => by omega, fun j hj => hI.2.1 j (by omega)⟩, fun h0 => ?_⟩, by dsimp only; omega⟩ (by dsimp only; omega)) (by (repeat first | exact LE.nil _ | refine LE.unk _ _ ?_ | refine LE.eq _ _ _ rfl ?_)) (by (repeat first | exact E3 | (refine E6 ?_ ?_; exact U5))) (Nat.le_refl _)
                first | omega | (rw [E2] at h7_17; unfold ltS; simpa using h7_17)
            ·refine C7 j5 (A4 j3 (A4 j3 (A4 j3 (A4 j3 (A4 j3 (A4 j3 (A4 j3 (A4 j3 (A4 j3 (B7 (e := false) j6 (A3 (A1 ?_))))))))))))
             refine wF rfl (B2 (A1 (A2 (A0 (D7 j5 (A3 (A1 (B4 (F6 ?_)))))))))
             refine E8 (fun (a : Nat × Nat) => [.unk, .ptr 0 0 0, .unk, .int .i64 i0, .ptr m0 0 0, .int .i64 a.1]) (fun (a : Nat × Nat) => hp [(0, ⟨[[.int .i64 t.tm, .int .i64 t.nx, .sl false n1 (t.lk.map (Lk.T b)), .sl false n2 (t.sn.map Sn.T)]], 4, 35⟩), (m0, ⟨[[.str (t.lk.getD i0 Lk0).nm, .int .i64 (t.lk.getD i0 Lk0).tk, .int .i64 (t.lk.getD i0 Lk0).hd, .int .i64 (t.lk.getD i0 Lk0).ex, .sl false b ((t.lk.getD i0 Lk0).ws.map wtT)]], 5, 29⟩)]) (fun (a : Nat × Nat) => a.2) (fun (a : Nat × Nat) => a.1 ≤ (t.lk.getD i0 Lk0).ws.length ∧ (∀ j, j < a.1 → wOK (t.lk.getD i0 Lk0) j) ∧ m0 < a.2) (fun (a : Nat × Nat) => (t.lk.getD i0 Lk0).ws.length - a.1) (0, m0 + 1) ?_ ?_ ?_ ?_ ?_
             ·exact ⟨Nat.zero_le _, P7, Nat.lt_succ_self _⟩
             ·(repeat first | exact LE.nil _ | refine LE.unk _ _ ?_ | refine LE.eq _ _ _ rfl ?_)
             ·(repeat first | exact E3 | (refine E6 ?_ ?_; exact U5))
             ·exact Nat.le_refl _
             intro ⟨k, m1⟩ hI ih
             dsimp only at hI ⊢
             have hK1 := hI
             have ih1 := ih
             refine F5 (A2 (A2 (A0 (B5 j5 (C0 (off := 4) (s := 1) (r := false) j3 kz j3 ?_)))))
             (apply C6 (v := .sl _ _ _) j2; exact Q0; rfl; exact j5)
             refine H9 rfl rfl rfl j3 ?_
             refine I9 j6 ?_ ?_ <;> intro h12_4
             ·refine A3 (A1 (wT rfl (B2 (A1 (A2 (B4 (A2 (A0 (C0 (off := 4) (s := 1) (r := false) j3 kz j3 ?_)))))))))
              (apply C6 (v := .sl _ _ _) j2; exact Q0; rfl; exact j5)
              refine B5 j5 ?_
              (apply N6 j4; exact Q4; exact Q23; exact j4)
              refine S9 (vs := [.int _ _, .int _ _]) j3 kb j4 (H0 j6 ?_)
              (apply D2 (u := .agg [.int _ _, .int _ _]) j3; exact Q0; rfl; rfl; rfl; rfl; rfl; exact kb; rfl; exact j2)
              refine A3 (A1 (A2 (A2 (A0 (C0 (off := 0) (s := 1) (r := false) j3 kz j3 ?_)))))
              (apply C6 (v := .int _ _) j2; exact Q0; rfl; exact j5)
              refine E7 (BP _ _ _) rfl j5 ?_ ?_ <;> intro h15_2
              ·refine D5 (c := true) j5 (C7 j5 (C0 (off := 1) (s := 1) (r := false) j3 kz j3 ?_))
               (apply C6 (v := .int _ _) j2; exact Q0; rfl; exact j5)
               refine E7 (BP _ _ _) rfl j5 ?_ ?_ <;> intro h15_7
               ·refine D5 (c := true) j5 (B7 (e := false) j6 (C7 j5 (C0 (off := 0) (s := 1) (r := false) j3 kz j3 ?_)))
                (apply C6 (v := .int _ _) j2; exact Q0; rfl; exact j5)
                refine C0 (off := 2) (s := 1) (r := false) j3 kz j3 ?_
                (apply C6 (v := .int _ _) j2; exact Q0; rfl; exact j5)
                refine I1 j6 ?_ ?_ <;> intro h15_15
                ·refine B7 (e := true) j6 (A3 (A1 (wT rfl (A2 (A0 (C4 j5 (A3 (A1 (B1 (B0 (A8 (B0 ?_))))))))))))
                 refine D4 (A8 (A8 (B0 (D4 (A8 (B0 ?_))))))
                 refine C5 rfl fun hw => ?_
                 obtain ⟨w1, w2, w3, w4, w5, w6⟩ := hw
                 obtain ⟨⟨v1, v2, v3, v4, v5, v6, v7⟩, v8⟩ := w5 i0 (by omega)
                 obtain ⟨u1, u2, u3, u4⟩ := v7 k (by omega)
                 first | omega | contradiction
                ·refine B7 (e := false) j6 (A3 (A1 (wF rfl (B2 (A1 (A2 (A0 (D7 j5 (A3 (A1 (B4 (F6 ?_))))))))))))
                 refine E8 (fun (q : Nat) => [.unk, .ptr 0 0 0, .unk, .int .i64 i0, .ptr m0 0 0, .int .i64 k, .ptr m1 0 0, .int .i64 q]) (fun (q : Nat) => hp [(0, ⟨[[.int .i64 t.tm, .int .i64 t.nx, .sl false n1 (t.lk.map (Lk.T b)), .sl false n2 (t.sn.map Sn.T)]], 4, 35⟩), (m0, ⟨[[.str (t.lk.getD i0 Lk0).nm, .int .i64 (t.lk.getD i0 Lk0).tk, .int .i64 (t.lk.getD i0 Lk0).hd, .int .i64 (t.lk.getD i0 Lk0).ex, .sl false b ((t.lk.getD i0 Lk0).ws.map wtT)]], 5, 29⟩), (m1, ⟨[[.int .i64 ((t.lk.getD i0 Lk0).ws.getD k (0, 0)).1, .int .i64 ((t.lk.getD i0 Lk0).ws.getD k (0, 0)).2]], 2, 123⟩)]) (fun (q : Nat) => m1 + 1) (fun (q : Nat) => q ≤ k ∧ ∀ j, j < q → ¬ ((t.lk.getD i0 Lk0).ws.getD j (0, 0)).1 = ((t.lk.getD i0 Lk0).ws.getD k (0, 0)).1) (fun (q : Nat) => k - q) 0 ?_ ?_ ?_ ?_ ?_
                 ·exact ⟨Nat.zero_le _, P7⟩
                 ·(repeat first | exact LE.nil _ | refine LE.unk _ _ ?_ | refine LE.eq _ _ _ rfl ?_)
                 ·(repeat first | exact E3 | (refine E6 ?_ ?_; exact U5))
                 ·exact Nat.le_refl _
                 intro q hI ih
                 refine F5 (A2 (A2 (A0 (B5 j5 (B5 j5 ?_)))))
                 refine I9 j6 ?_ ?_ <;> intro h18_2
                 ·refine A3 (A1 (wT rfl (B2 (A1 (A2 (B4 (A2 (B9 [0, 1, 0, 7, 15, 31, 0, 64, 255] rfl (by decide +kernel) ?_))))))))
                  refine C8 (off := 4) (s := 1) (r := false) j3 kz j3 ?_
                  (apply D1 (v := .sl _ _ _) j2; exact Q0; rfl; exact j5)
                  refine I8 j5 ?_
                  (apply Z8 j4; exact Q4; exact Q23; exact j4)
                  refine dfai (off := 0) (s := 1) (r := false) j3 kz j4 (AM (v := .int _ _) j8 (C8 (off := 0) (s := 1) (r := false) j3 kz j3 ?_))
                  (apply D1 (v := .int _ _) j2; exact Q0; rfl; exact j5)
                  refine deq j6 ?_ ?_ <;> intro h20_8
                  ·refine B3 9 [0, 1, 0, 0, 0, 0, 0, 1, 0] [] j2 (by decide +kernel) trivial ?_
                   refine A1 (wT rfl (A2 (A0 (C4 j5 (A3 (A1 (B1 (A8 (B0 (D4 (A8 (A8 ?_))))))))))))
                   refine B0 (D4 (A8 (A8 (B0 (D4 (A8 (B0 ?_)))))))
                   refine C5 rfl fun hw => ?_
                   obtain ⟨w1, w2, w3, w4, w5, w6⟩ := hw
                   obtain ⟨⟨v1, v2, v3, v4, v5, v6, v7⟩, v8⟩ := w5 i0 (by omega)
                   obtain ⟨u1, u2, u3, u4⟩ := v7 k (by omega)
                   exact u4 q (by omega) h20_8
                  ·refine B3 9 [0, 1, 0, 0, 0, 0, 0, 1, 0] [] j2 (by decide +kernel) trivial ?_
                   refine A1 (wF rfl (B2 (C2 (A1 (A0 (B5 j5 (D0 j3 ?_ ?_ j3 ?_)))))))
                   ·exact Q4
                   ·exact Q4
                   refine D7 j5 (A3 (E5 ?_))
                   exact J7 (ih (q + 1) ⟨by omega, N3 hI.2 h20_8⟩ (by omega)) (by (repeat first | exact LE.nil _ | refine LE.unk _ _ ?_ | refine LE.eq _ _ _ rfl ?_)) (by (repeat first | exact E3 | (refine E6 ?_ ?_; exact U5))) (Nat.le_refl _)
                 ·refine A3 (A1 (wF rfl (E9 (F0 (D8 (C9 (C2 (A1 (A0 (B5 j5 (D0 j3 ?_ ?_ j3 ?_)))))))))))
                  ·exact Q4
                  ·exact Q4
                  refine D7 j5 (A3 (E5 ?_))
                  exact J7 (ih1 (k + 1, m1 + 1) ⟨by dsimp only; omega, N3 hK1.2.1 ⟨h15_2, by assumption, h15_7, fun j hj => hI.2 j (by omega)⟩, by dsimp only; omega⟩ (by dsimp only; omega)) (by (repeat first | exact LE.nil _ | refine LE.unk _ _ ?_ | refine LE.eq _ _ _ rfl ?_)) (by (repeat first | exact E3 | (refine E6 ?_ ?_; exact U5))) (Nat.le_refl _)
               ·refine D5 (c := false) j5 (B7 (e := true) j6 (C7 j5 (A4 j3 (A4 j3 (A4 j3 (A4 j3 (A4 j3 (B7 (e := true) j6 (A3 (A1 (wT rfl (A2 ?_))))))))))))
                refine A0 (C4 j5 (A3 (A1 (B1 (B0 (A8 (B0 (D4 (A8 (A8 (B0 (D4 ?_))))))))))))
                refine A8 (B0 ?_)
                refine C5 rfl fun hw => ?_
                obtain ⟨w1, w2, w3, w4, w5, w6⟩ := hw
                obtain ⟨⟨v1, v2, v3, v4, v5, v6, v7⟩, v8⟩ := w5 i0 (by omega)
                obtain ⟨u1, u2, u3, u4⟩ := v7 k (by omega)
                first | omega | contradiction
              ·refine D5 (c := false) j5 (C7 j5 (A4 j3 (A4 j3 (A4 j3 (A4 j3 (B7 (e := true) j6 (C7 j5 (A4 j3 (A4 j3 (A4 j3 (A4 j3 (A4 j3 ?_))))))))))))
               refine B7 (e := true) j6 (A3 (A1 (wT rfl (A2 (A0 (C4 j5 (A3 (A1 (B1 (B0 (A8 (B0 ?_))))))))))))
               refine D4 (A8 (A8 (B0 (D4 (A8 (B0 ?_))))))
               refine C5 rfl fun hw => ?_
               obtain ⟨w1, w2, w3, w4, w5, w6⟩ := hw
               obtain ⟨⟨v1, v2, v3, v4, v5, v6, v7⟩, v8⟩ := w5 i0 (by omega)
               obtain ⟨u1, u2, u3, u4⟩ := v7 k (by omega)
               first | omega | contradiction
             ·refine A3 (A1 (wF rfl (E9 (F0 (D8 (C9 (C2 (A1 (A0 (B5 j5 (D0 j3 ?_ ?_ j3 ?_)))))))))))
              ·exact Q4
              ·exact Q4
              refine D7 j5 (A3 (E5 ?_))
              refine J7 (ih0 (i0 + 1, m1) ⟨by dsimp only; omega, N3 hK0.2.1 ⟨⟨⟨by have := h7_2.1; omega, h7_2.2⟩, by omega, by omega, by omega, by omega, fun he => by omega, fun j hj => hI.2.1 j (by omega)⟩, fun h0 => ?_⟩, by dsimp only; omega⟩ (by dsimp only; omega)) (by (repeat first | exact LE.nil _ | refine LE.unk _ _ ?_ | refine LE.eq _ _ _ rfl ?_)) (by (repeat first | exact E3 | (refine E6 ?_ ?_; exact U5))) (Nat.le_refl _)
              first | omega | (rw [E2] at h7_17; unfold ltS; simpa using h7_17)
          ·refine K7 (c := false) j5 (F7 (e := true) j6 (H1 j5 (A5 j3 (A5 j3 (A5 j3 (A5 j3 (F7 (e := true) j6 (B3 47 [0, 0, 0, 0, 0, 0, 0, 0, 0, 1, 0, 0, 0, 0, 0, 1, 0, 0, 0, 0, 0, 0, 1, 0, 1, 0, 0, 0, 0, 0, 0, 0, 0, 0, 0, 0, 0, 0, 0, 0, 0, 0, 0, 0, 0, 1, 0] [] j2 (by decide +kernel) trivial ?_))))))))
           refine A1 (wT rfl (A2 (A0 (C4 j5 (A3 (A1 (B1 (B0 (A8 (B0 (D4 (A8 ?_))))))))))))
           refine B0 ?_
           refine C5 rfl fun hw => ?_
           obtain ⟨w1, w2, w3, w4, w5, w6⟩ := hw
           obtain ⟨⟨v1, v2, v3, v4, v5, v6, v7⟩, v8⟩ := w5 i0 (by omega)
           first
           | omega
           | exact h7_2 ⟨by have := v1.1; omega, v1.2⟩
           | (have v9 := v8 (by omega); unfold ltS at v9; rw [E2, v9] at h7_17; cases h7_17)
         ·refine K7 (c := false) j5 (F7 (e := true) j6 (H1 j5 (A5 j3 (A5 j3 (A5 j3 (A5 j3 (F7 (e := true) j6 (H1 j5 (A5 j3 (A5 j3 (A5 j3 (A5 j3 ?_))))))))))))
          refine F7 (e := true) j6 (B3 47 [0, 0, 0, 0, 0, 0, 0, 0, 0, 0, 0, 0, 0, 0, 0, 1, 0, 0, 0, 0, 0, 0, 1, 0, 1, 0, 0, 0, 0, 0, 0, 0, 0, 0, 0, 0, 0, 0, 0, 0, 0, 0, 0, 0, 0, 1, 0] [] j2 (by decide +kernel) trivial ?_)
          refine A1 (wT rfl (A2 (A0 (C4 j5 (A3 (A1 (B1 (B0 (A8 (B0 (D4 (A8 ?_))))))))))))
          refine B0 ?_
          refine C5 rfl fun hw => ?_
          obtain ⟨w1, w2, w3, w4, w5, w6⟩ := hw
          obtain ⟨⟨v1, v2, v3, v4, v5, v6, v7⟩, v8⟩ := w5 i0 (by omega)
          first
          | omega
          | exact h7_2 ⟨by have := v1.1; omega, v1.2⟩
          | (have v9 := v8 (by omega); unfold ltS at v9; rw [E2, v9] at h7_17; cases h7_17)
        ·refine K7 (c := false) j5 (F7 (e := true) j6 (H1 j5 (A5 j3 (A5 j3 (A5 j3 (A5 j3 (F7 (e := true) j6 (H1 j5 (A5 j3 (A5 j3 (A5 j3 (A5 j3 ?_))))))))))))
         refine F7 (e := true) j6 (H1 j5 (A5 j3 (A5 j3 (A5 j3 (A5 j3 (F7 (e := true) j6 (B3 47 [0, 0, 0, 0, 0, 0, 0, 0, 0, 0, 0, 0, 0, 0, 0, 0, 0, 0, 0, 0, 0, 0, 1, 0, 1, 0, 0, 0, 0, 0, 0, 0, 0, 0, 0, 0, 0, 0, 0, 0, 0, 0, 0, 0, 0, 1, 0] [] j2 (by decide +kernel) trivial ?_)))))))
         refine A1 (wT rfl (A2 (A0 (C4 j5 (A3 (A1 (B1 (B0 (A8 (B0 (D4 (A8 ?_))))))))))))
         refine B0 ?_
         refine C5 rfl fun hw => ?_
         obtain ⟨w1, w2, w3, w4, w5, w6⟩ := hw
         obtain ⟨⟨v1, v2, v3, v4, v5, v6, v7⟩, v8⟩ := w5 i0 (by omega)
         first
         | omega
         | exact h7_2 ⟨by have := v1.1; omega, v1.2⟩
         | (have v9 := v8 (by omega); unfold ltS at v9; rw [E2, v9] at h7_17; cases h7_17)
      ·refine K7 (c := false) j5 (H1 j5 (A5 j3 (A5 j3 (A5 j3 (A5 j3 (A5 j3 (A5 j3 (A5 j3 (A5 j3 (A5 j3 (A5 j3 (A5 j3 ?_))))))))))))
       refine A5 j3 (A5 j3 (A5 j3 (F7 (e := true) j6 (H1 j5 (A5 j3 (A5 j3 (A5 j3 (A5 j3 (A5 j3 (A5 j3 (A5 j3 (F7 (e := true) j6 ?_))))))))))))
       refine H1 j5 (A5 j3 (A5 j3 (A5 j3 (A5 j3 (F7 (e := true) j6 (H1 j5 (A5 j3 (A5 j3 (A5 j3 (A5 j3 (F7 (e := true) j6 (H1 j5 ?_))))))))))))
       refine A5 j3 (A5 j3 (A5 j3 (A5 j3 (F7 (e := true) j6 (B3 47 [0, 0, 0, 0, 0, 0, 0, 0, 0, 0, 0, 0, 0, 0, 0, 0, 0, 0, 0, 0, 0, 0, 0, 0, 0, 0, 0, 0, 0, 0, 0, 0, 0, 0, 0, 0, 0, 0, 0, 0, 0, 0, 0, 0, 0, 1, 0] [] j2 (by decide +kernel) trivial ?_)))))
       refine A1 (wT rfl (A2 (A0 (C4 j5 (A3 (A1 (B1 (B0 (A8 (B0 (D4 (A8 ?_))))))))))))
       refine B0 ?_
       refine C5 rfl fun hw => ?_
       obtain ⟨w1, w2, w3, w4, w5, w6⟩ := hw
       obtain ⟨⟨v1, v2, v3, v4, v5, v6, v7⟩, v8⟩ := w5 i0 (by omega)
       first
       | omega
       | exact h7_2 ⟨by have := v1.1; omega, v1.2⟩
       | (have v9 := v8 (by omega); unfold ltS at v9; rw [E2, v9] at h7_17; cases h7_17)
     ·refine A3 (A1 (wF rfl (E9 (F0 (D8 (C9 (A1 (A2 (A2 (A0 (D7 j5 (A3 ?_))))))))))))
      refine A1 (B4 (F6 ?_))
      refine E8 (fun (a : Nat × Nat) => [.unk, .ptr 0 0 0, .unk, .unk, .unk, .unk, .unk, .unk, .int .i64 a.1]) (fun (a : Nat × Nat) => hp [(0, ⟨[[.int .i64 t.tm, .int .i64 t.nx, .sl false n1 (t.lk.map (Lk.T b)), .sl false n2 (t.sn.map Sn.T)]], 4, 35⟩)]) (fun (a : Nat × Nat) => a.2) (fun (a : Nat × Nat) => a.1 ≤ t.sn.length ∧ (∀ j, j < a.1 → snAt t j) ∧ 1 ≤ a.2) (fun (a : Nat × Nat) => t.sn.length - a.1) (0, m0) ?_ ?_ ?_ ?_ ?_
      ·exact ⟨Nat.zero_le _, P7, hK0.2.2⟩
      ·(repeat first | exact LE.nil _ | refine LE.unk _ _ ?_ | refine LE.eq _ _ _ rfl ?_)
      ·(repeat first | exact E3 | (refine E6 ?_ ?_; exact U5))
      ·exact Nat.le_refl _
      intro ⟨i, m3⟩ hI ih
      dsimp only at hI ⊢
      refine F5 (A2 (A2 (A0 (B5 j5 (C0 (off := 3) (s := 1) (r := false) j3 kz j3 ?_)))))
      (apply C6 (v := .sl _ _ _) j2; exact Q0; rfl; exact j5)
      refine H9 rfl rfl rfl j3 ?_
      refine I9 j6 ?_ ?_ <;> intro h23_4
      ·refine A3 (A1 (wT rfl (B2 (A1 (A2 (B4 (A2 (A0 (C0 (off := 3) (s := 1) (r := false) j3 kz j3 ?_)))))))))
       (apply C6 (v := .sl _ _ _) j2; exact Q0; rfl; exact j5)
       refine B5 j5 ?_
       (apply N6 j4; exact Q4; exact Q23; exact j4)
       refine S9 (vs := [.int _ _, .int _ _, .int _ _, .int _ _, .int _ _, .int _ _]) j3 kb j4 (H0 j6 ?_)
       (apply D2 (u := .agg [.int _ _, .int _ _, .int _ _, .int _ _, .int _ _, .int _ _]) j3; exact Q0; rfl; rfl; rfl; rfl; rfl; exact kb; rfl; exact j2)
       refine A3 (A1 (A2 (B9 [0, 1, 3, 7, 15, 31, 63, 127, 255, 511, 1023, 2047, 4095, 8191, 16383, 32767, 65535, 131071, 262143, 524287, 1048575, 2097151, 1048575, 5242879, 16777215, 33554431, 67108863, 1048575, 135266303, 536870911, 1073741823, 2147483647] rfl (by decide +kernel) ?_)))
       refine C8 (off := 0) (s := 1) (r := false) j3 kz j3 ?_
       (apply D1 (v := .int _ _) j2; exact Q0; rfl; exact j5)
       refine Z9 (BP _ _ _) rfl j5 ?_ ?_ <;> intro h26_2
       ·refine K7 (c := true) j5 (H1 j5 (C8 (off := 1) (s := 1) (r := false) j3 kz j3 ?_))
        (apply D1 (v := .int _ _) j2; exact Q0; rfl; exact j5)
        refine Z9 (BP _ _ _) rfl j5 ?_ ?_ <;> intro h26_7
        ·refine K7 (c := true) j5 (F7 (e := false) j6 (H1 j5 (C8 (off := 2) (s := 4) (r := true) j3 kz j3 ?_)))
         (apply N5 (vs := [.int _ _, .int _ _, .int _ _, .int _ _]) j2; exact Q0; rfl; rfl; exact kb; exact j4)
         refine Z9 (s82 (t.sn.getD i Sn0).an) rfl j5 ?_ ?_ <;> intro h26_13
         ·refine K7 (c := true) j5 (F7 (e := false) j6 (H1 j5 (I8 j5 ?_)))
          refine dgt j6 ?_ ?_ <;> intro h26_18
          ·refine H1 j5 (C8 (off := 3) (s := 1) (r := false) j3 kz j3 ?_)
           (apply D1 (v := .sl _ _ _) j2; exact Q0; rfl; exact j5)
           refine I8 j5 (AY j3 ?_ ?_ j3 ?_)
           ·exact Q4
           ·exact Q4
           (apply Z8 j4; exact Q4; exact Q23; exact j4)
           refine dfai (off := 0) (s := 1) (r := false) j3 kz j4 (AM (v := .int _ _) j8 (C8 (off := 0) (s := 1) (r := false) j3 kz j3 ?_))
           (apply D1 (v := .int _ _) j2; exact Q0; rfl; exact j5)
           refine dge j6 ?_ ?_ <;> intro h26_29
           ·refine F7 (e := true) j6 (F7 (e := true) j6 (B3 32 [0, 0, 0, 1, 0, 0, 0, 0, 0, 0, 1, 0, 0, 0, 0, 0, 0, 0, 0, 1, 0, 0, 0, 0, 0, 1, 0, 0, 0, 0, 1, 0] [] j2 (by decide +kernel) trivial ?_))
            refine A1 (wT rfl (A2 (A0 (C4 j5 (A3 (A1 (B1 (A8 (B0 (D4 (A8 (B0 ?_))))))))))))
            refine C5 rfl fun hw => ?_
            obtain ⟨w1, w2, w3, w4, w5, w6⟩ := hw
            obtain ⟨⟨v1, v2, v3⟩, v4⟩ := w6 i (by omega)
            first | exact h26_2 v1 | exact h26_7 v2 | exact h26_13 v3 | (have v5 := v4 (by omega); rw [E2] at h26_29; exact Int.not_le.mpr v5 h26_29)
           ·refine F7 (e := false) j6 (F7 (e := false) j6 (B3 32 [0, 0, 0, 1, 0, 0, 0, 0, 0, 0, 1, 0, 0, 0, 0, 0, 0, 0, 0, 1, 0, 0, 0, 0, 0, 1, 0, 0, 0, 0, 1, 0] [] j2 (by decide +kernel) trivial ?_))
            refine A1 (wF rfl (B2 (C2 (A1 (A0 (B5 j5 (D0 j3 ?_ ?_ j3 ?_)))))))
            ·exact Q4
            ·exact Q4
            refine D7 j5 (A3 (E5 ?_))
            exact J7 (ih (i + 1, m3 + 1) ⟨by dsimp only; omega, N3 hI.2.1 ⟨⟨h26_2, h26_7, h26_13⟩, fun h0 => by first | omega | (rw [E2] at h26_29; exact Int.not_le.mp h26_29)⟩, by dsimp only; omega⟩ (by dsimp only; omega)) (by (repeat first | exact LE.nil _ | refine LE.unk _ _ ?_ | refine LE.eq _ _ _ rfl ?_)) (by (repeat first | exact E3 | (refine E6 ?_ ?_; exact U5))) (Nat.le_refl _)
          ·refine H1 j5 (A5 j3 (A5 j3 (A5 j3 (A5 j3 (A5 j3 (A5 j3 (A5 j3 (A5 j3 (A5 j3 (A5 j3 (F7 (e := false) j6 (F7 (e := false) j6 ?_))))))))))))
           refine B3 32 [0, 0, 0, 0, 0, 0, 0, 0, 0, 0, 0, 0, 0, 0, 0, 0, 0, 0, 0, 1, 0, 0, 0, 0, 0, 1, 0, 0, 0, 0, 1, 0] [] j2 (by decide +kernel) trivial ?_
           refine A1 (wF rfl (B2 (C2 (A1 (A0 (B5 j5 (D0 j3 ?_ ?_ j3 ?_)))))))
           ·exact Q4
           ·exact Q4
           refine D7 j5 (A3 (E5 ?_))
           exact J7 (ih (i + 1, m3 + 1) ⟨by dsimp only; omega, N3 hI.2.1 ⟨⟨h26_2, h26_7, h26_13⟩, fun h0 => by first | omega | (rw [E2] at h26_29; exact Int.not_le.mp h26_29)⟩, by dsimp only; omega⟩ (by dsimp only; omega)) (by (repeat first | exact LE.nil _ | refine LE.unk _ _ ?_ | refine LE.eq _ _ _ rfl ?_)) (by (repeat first | exact E3 | (refine E6 ?_ ?_; exact U5))) (Nat.le_refl _)
         ·refine K7 (c := false) j5 (F7 (e := true) j6 (H1 j5 (A5 j3 (A5 j3 (A5 j3 (A5 j3 (A5 j3 (A5 j3 (A5 j3 (A5 j3 (A5 j3 (A5 j3 ?_))))))))))))
          refine A5 j3 (A5 j3 (A5 j3 (A5 j3 (F7 (e := true) j6 (B3 32 [0, 0, 0, 0, 0, 0, 0, 0, 0, 0, 0, 0, 0, 0, 0, 0, 0, 0, 0, 1, 0, 0, 0, 0, 0, 1, 0, 0, 0, 0, 1, 0] [] j2 (by decide +kernel) trivial ?_)))))
          refine A1 (wT rfl (A2 (A0 (C4 j5 (A3 (A1 (B1 (A8 (B0 (D4 (A8 (B0 ?_))))))))))))
          refine C5 rfl fun hw => ?_
          obtain ⟨w1, w2, w3, w4, w5, w6⟩ := hw
          obtain ⟨⟨v1, v2, v3⟩, v4⟩ := w6 i (by omega)
          first | exact h26_2 v1 | exact h26_7 v2 | exact h26_13 v3 | (have v5 := v4 (by omega); rw [E2] at h26_29; exact Int.not_le.mpr v5 h26_29)
        ·refine K7 (c := false) j5 (F7 (e := true) j6 (H1 j5 (A5 j3 (A5 j3 (A5 j3 (A5 j3 (F7 (e := true) j6 (H1 j5 (A5 j3 (A5 j3 (A5 j3 (A5 j3 ?_))))))))))))
         refine A5 j3 (A5 j3 (A5 j3 (A5 j3 (A5 j3 (A5 j3 (A5 j3 (A5 j3 (A5 j3 (A5 j3 (F7 (e := true) j6 (B3 32 [0, 0, 0, 0, 0, 0, 0, 0, 0, 0, 0, 0, 0, 0, 0, 0, 0, 0, 0, 0, 0, 0, 0, 0, 0, 1, 0, 0, 0, 0, 1, 0] [] j2 (by decide +kernel) trivial ?_)))))))))))
         refine A1 (wT rfl (A2 (A0 (C4 j5 (A3 (A1 (B1 (A8 (B0 (D4 (A8 (B0 ?_))))))))))))
         refine C5 rfl fun hw => ?_
         obtain ⟨w1, w2, w3, w4, w5, w6⟩ := hw
         obtain ⟨⟨v1, v2, v3⟩, v4⟩ := w6 i (by omega)
         first | exact h26_2 v1 | exact h26_7 v2 | exact h26_13 v3 | (have v5 := v4 (by omega); rw [E2] at h26_29; exact Int.not_le.mpr v5 h26_29)
       ·refine K7 (c := false) j5 (H1 j5 (A5 j3 (A5 j3 (A5 j3 (A5 j3 (F7 (e := true) j6 (H1 j5 (A5 j3 (A5 j3 (A5 j3 (A5 j3 (F7 (e := true) j6 ?_))))))))))))
        refine H1 j5 (A5 j3 (A5 j3 (A5 j3 (A5 j3 (A5 j3 (A5 j3 (A5 j3 (A5 j3 (A5 j3 (A5 j3 (A5 j3 (A5 j3 ?_))))))))))))
        refine A5 j3 (A5 j3 (F7 (e := true) j6 (B3 32 [0, 0, 0, 0, 0, 0, 0, 0, 0, 0, 0, 0, 0, 0, 0, 0, 0, 0, 0, 0, 0, 0, 0, 0, 0, 0, 0, 0, 0, 0, 1, 0] [] j2 (by decide +kernel) trivial ?_)))
        refine A1 (wT rfl (A2 (A0 (C4 j5 (A3 (A1 (B1 (A8 (B0 (D4 (A8 (B0 ?_))))))))))))
        refine C5 rfl fun hw => ?_
        obtain ⟨w1, w2, w3, w4, w5, w6⟩ := hw
        obtain ⟨⟨v1, v2, v3⟩, v4⟩ := w6 i (by omega)
        first | exact h26_2 v1 | exact h26_7 v2 | exact h26_13 v3 | (have v5 := v4 (by omega); rw [E2] at h26_29; exact Int.not_le.mpr v5 h26_29)
      ·refine A3 (A1 (wF rfl (E9 (F0 (D8 (C9 (A1 (A2 (A0 (C4 j5 (A3 (A1 ?_))))))))))))
       refine B1 ?_
       exact D3 rfl ⟨h1_2, h1_7, by omega, by omega, fun j hj => hK0.2.1 j (by omega), fun j hj => hI.2.1 j (by omega)⟩
  ·refine D5 (c := false) j5 (B7 (e := true) j6 (C7 j5 (A4 j3 (A4 j3 (A4 j3 (A4 j3 (B7 (e := true) j6 (C7 j5 (A4 j3 (A4 j3 (A4 j3 (A4 j3 ?_))))))))))))
   refine B7 (e := true) j6 (A3 (A1 (wT rfl (A2 (A0 (C4 j5 (A3 (A1 (B1 (B0 ?_))))))))))
   refine C5 rfl fun hw => ?_; obtain ⟨w1, w2, w3, w4, w5, w6⟩ := hw; first | contradiction | omega
 ·refine D5 (c := false) j5 (C7 j5 (A4 j3 (A4 j3 (A4 j3 (A4 j3 (B7 (e := true) j6 (C7 j5 (A4 j3 (A4 j3 (A4 j3 (A4 j3 (B7 (e := true) j6 ?_))))))))))))
  refine C7 j5 (A4 j3 (A4 j3 (A4 j3 (A4 j3 (B7 (e := true) j6 (A3 (A1 (wT rfl (A2 (A0 (C4 j5 (A3 ?_))))))))))))
  refine A1 (B1 (B0 ?_))
  refine C5 rfl fun hw => ?_; obtain ⟨w1, w2, w3, w4, w5, w6⟩ := hw; first | contradiction | omega
open Go.V
set_option linter.unusedVariables false
set_option linter.unusedSimpArgs false
set_option maxRecDepth 20000
set_option maxHeartbeats 4000000
def strT (s : ByteArray) : List T := [.str s]
def cb (a b : ByteArray) : Int := Lib.compareBytes a.data.toList b.data.toList
theorem hcmp (a b : ByteArray) (w : World) : (callFunc 144 #[.string a, .string b]).run En.P w = .ok (.value (.int .i64 (cb a b))) w := by
 show (callFunc 144 #[.string a, .string b]).run Try.prog w = _
 rw [run_callFunc_extern Try.func144 (by kernel_rfl) (by kernel_rfl) (by kernel_rfl) (e := Extern.BytealgCompare.compare) (by kernel_rfl), Lib.run_compareString]; rfl
theorem s123 (a b : ByteArray) : Pure En 123 [.one (.str a), .one (.str b)] [.one (.int .i64 (cb a b))] := by
 refine Pure.of_wp Try.func123 rfl kb ?_
 refine A2 (A0 (D7 j5 (A3 (A1 (A2 (A0 (X9 j5 (X9 j5 (rx2 (hcmp a b) rfl j6 (D7 j5 (A3 (A1 ?_))))))))))))
 refine B1 ?_
 exact fin rfl rfl
theorem s89 (a b : ByteArray) : Pure En 89 [.one (.str a), .one (.str b)] [.one (.int .i64 (cb a b))] := by
 refine Pure.of_wp Try.func89 rfl kb ?_
 refine A2 (A0 (D7 j5 (A3 (A1 (A2 (A0 (X9 j5 (X9 j5 (rcl (s123 a b) rfl j5 (D7 j5 (A3 (A1 ?_))))))))))))
 refine B1 ?_
 exact fin rfl rfl
def Lk.V (l : Lk) (W : V) : List V := [.str l.nm, .int .i64 l.tk, .int .i64 l.hd, .int .i64 l.ex, W]
theorem o88 (l : Lk) (W : V) (hW : W.cell = true) (s : ByteArray) {h : Heap} {n : Nat} : V.Open En 88 [.agg (l.V W), .str s] h n (.int .i64 (cb l.nm s)) [] (n + 1) := by
 refine V.Open.of_wp Try.func88 rfl kb ?_
 refine A2 (A0 ?_)
 (refine J6 (u := .agg (l.V W)) j3 ?_ j3 ?_; (show (W.cell && true) = true; rw [hW]; rfl))
 refine D7 j5 (A3 (A1 (A2 (A0 (C0 (off := 0) (s := 1) (r := false) j3 kz j3 ?_)))))
 (apply C6 (v := .str _) j2; exact Q0; rfl; exact j5)
 refine X9 j5 (rcl (s89 _ _) rfl j5 (D7 j5 (A3 (A1 (B1 ?_)))))
 exact G4 rfl rfl (K9 (fun j hj => absurd hj List.not_mem_nil) (fun j hj hn => by first | rfl | (simp (disch := omega) only [↓app0, ↓appC, ↓updS, ↓updN]))) (Nat.le_refl _)
theorem cmpL : ∀ a b : List UInt8, (Lib.compareBytes a b < 0 ↔ a < b) ∧ (Lib.compareBytes a b = 0 ↔ a = b)
 | [], [] => by simp [Lib.compareBytes]
 | [], _ :: _ => by simp [Lib.compareBytes]
 | _ :: _, [] => by simp [Lib.compareBytes]
 | a :: x, b :: y => by
  have ih := cmpL x y
  unfold Lib.compareBytes
  rw [List.cons_lt_cons_iff, List.cons.injEq]
  by_cases h1 : a < b
  ·rw [if_pos h1]
   refine ⟨⟨fun _ => .inl h1, fun _ => by decide⟩, fun e => absurd e (by decide), fun e => ?_⟩
   rw [e.1] at h1; exact absurd h1 (UInt8.lt_irrefl _)
  ·rw [if_neg h1]
   by_cases h2 : b < a
   ·rw [if_pos h2]
    refine ⟨⟨fun e => absurd e (by decide), fun e => ?_⟩, fun e => absurd e (by decide), fun e => ?_⟩
    ·rcases e with e | e
     ·exact absurd e h1
     ·rw [e.1] at h2; exact absurd h2 (UInt8.lt_irrefl _)
    ·rw [e.1] at h2; exact absurd h2 (UInt8.lt_irrefl _)
   ·rw [if_neg h2]
    have e : a = b := UInt8.le_antisymm (UInt8.not_lt.1 h2) (UInt8.not_lt.1 h1)
    subst e
    simp [h1, ih.1, ih.2]
theorem AA : ∀ (x y : List UInt8), Op.bytesLess x y = decide (x < y)
 | [], [] => by simp [Op.bytesLess]
 | _ :: _, [] => by simp [Op.bytesLess]
 | [], _ :: _ => by simp [Op.bytesLess]
 | a :: x, b :: y => by
  rw [Op.bytesLess, AA x y]
  simp only [List.cons_lt_cons_iff]
  by_cases h1 : a < b <;> by_cases h2 : a = b <;> by_cases h3 : x < y <;> simp [h1, h2, h3]
theorem W5 (a b : ByteArray) : ltS a b ↔ a.data.toList < b.data.toList := by
 unfold ltS
 rw [Lib.toList_data, Lib.toList_data, AA, decide_eq_true_iff]
instance (a b : ByteArray) : Decidable (ltS a b) := by unfold ltS; infer_instance
theorem cb_lt {a b : ByteArray} : cb a b < 0 ↔ ltS a b := by rw [W5]; exact (cmpL _ _).1
theorem cb_eq {a b : ByteArray} : cb a b = 0 ↔ a = b := by
 unfold cb
 rw [(cmpL _ _).2]
 constructor
 ·intro e; cases a; cases b; simp at e ⊢; cases ‹Array UInt8›; cases ‹Array UInt8›; simpa using e
 ·intro e; rw [e]
theorem ltS_irr (a : ByteArray) : ¬ ltS a a := by rw [W5]; exact List.lt_irrefl _
theorem T3 {a b c : ByteArray} : ltS a b → ltS b c → ltS a c := by
 rw [W5, W5, W5]; exact fun h1 h2 => List.lt_trans h1 h2
def lnm (L : List Lk) (i : Nat) : ByteArray := (L.getD i Lk0).nm
def Srt (L : List Lk) : Prop := ∀ i, 0 < i → i < L.length → ltS (lnm L (i - 1)) (lnm L i)
theorem Srt.lt {L : List Lk} (hs : Srt L) {i : Nat} : ∀ {j : Nat}, i < j → j < L.length → ltS (lnm L i) (lnm L j)
 | 0, h, _ => absurd h (Nat.not_lt_zero _)
 | j + 1, h, h1 => by
  have e := hs (j + 1) (Nat.succ_pos _) h1
  rw [Nat.add_sub_cancel] at e
  by_cases e2 : i = j
  ·subst e2; exact e
  ·exact T3 (hs.lt (j := j) (by omega) (by omega)) e
theorem Tb.OK.srt {t : Tb} (h : t.OK) : Srt t.lk := fun i h0 h1 => (h.2.2.2.2.1 i h1).2 h0
def pos (s : ByteArray) : List Lk → Nat
 | [] => 0
 | l :: r => if ltS l.nm s then pos s r + 1 else 0
theorem Y7 {s : ByteArray} : ∀ {L : List Lk} {p : Nat}, p ≤ L.length → (∀ j, j < p → ltS (lnm L j) s) → (p < L.length → ¬ ltS (lnm L p) s) → pos s L = p
 | [], p, h, _, _ => by simp at h; subst h; rfl
 | l :: r, 0, _, _, h => by unfold pos; rw [if_neg (by simpa [lnm] using h (by simp))]
 | l :: r, p + 1, h, h1, h2 => by
  unfold pos
  rw [if_pos (by simpa [lnm] using h1 0 (Nat.succ_pos _)), Y7 (L := r) (p := p) (by simpa using h) (fun j hj => by simpa [lnm] using h1 (j + 1) (by omega)) (fun h3 => by simpa [lnm] using h2 (by simpa using h3))]
def hit (s : ByteArray) (L : List Lk) : Prop := pos s L < L.length ∧ lnm L (pos s L) = s
instance (s : ByteArray) (L : List Lk) : Decidable (hit s L) := by unfold hit; infer_instance
theorem hit_of {s : ByteArray} {L : List Lk} (hs : Srt L) {i : Nat} (h : i < L.length) (e : lnm L i = s) : pos s L = i ∧ hit s L := by
 have : pos s L = i := Y7 (Nat.le_of_lt h) (fun j hj => e ▸ hs.lt hj h) (fun _ => by rw [e]; exact ltS_irr s)
 exact ⟨this, by rw [this]; exact h, by rw [this]; exact e⟩
theorem hit_no {s : ByteArray} {L : List Lk} (h : ∀ j, j < L.length → ¬ lnm L j = s) : ¬ hit s L := fun e => h _ e.1 e.2
def fix (s : ByteArray) (L : List Lk) : Int := if hit s L then pos s L else -1
theorem s43 (t : Tb) (b n1 n2 : Bool) (s : ByteArray) (hs : Srt t.lk) (hL : t.lk.length ≤ 1048576) : Pure En 43 [.agg (t.T b n1 n2), .one (.str s)] [.one (.int .i64 (fix s t.lk))] := by
 have hl : (t.lk.map (Lk.T b)).length = t.lk.length := List.length_map ..
 refine Pure.of_wp Try.func43 rfl kb ?_
 refine A2 (A0 (J6 (u := .agg [.int _ _, .int _ _, _, _]) j3 rfl j3 (D7 j5 (A3 (A1 (A2 (A2 (A0 (D7 j5 (A3 (A1 (B4 ?_))))))))))))
 refine F6 ?_
 refine E8 (fun (i : Nat) => [.unk, .str s, .ptr 0 0 0, .unk, .unk, .int .i64 i]) (fun (i : Nat) => hp [(0, ⟨[[.int .i64 t.tm, .int .i64 t.nx, .sl false n1 (t.lk.map (Lk.T b)), .sl false n2 (t.sn.map Sn.T)]], 4, 35⟩)]) (fun (i : Nat) => 1) (fun (i : Nat) => i ≤ t.lk.length ∧ ∀ j, j < i → ¬ lnm t.lk j = s) (fun (i : Nat) => t.lk.length - i) 0 ?_ ?_ ?_ ?_ ?_
 ·exact ⟨Nat.zero_le _, P7⟩
 ·(repeat first | exact LE.nil _ | refine LE.unk _ _ ?_ | refine LE.eq _ _ _ rfl ?_)
 ·(repeat first | exact E3 | (refine E6 ?_ ?_; exact U5))
 ·exact Nat.le_refl _
 intro i hI ih
 refine F5 (A2 (A2 (A0 (B5 j5 (C0 (off := 2) (s := 1) (r := false) j3 kz j3 ?_)))))
 (apply C6 (v := .sl _ _ _) j2; exact Q0; rfl; exact j5)
 refine H9 rfl rfl rfl j3 ?_
 refine I9 j6 ?_ ?_ <;> intro h2_4
 ·refine A3 (A1 (wT rfl (B2 (A1 (A2 (B4 (A2 (A0 (C0 (off := 2) (s := 1) (r := false) j3 kz j3 ?_)))))))))
  (apply C6 (v := .sl _ _ _) j2; exact Q0; rfl; exact j5)
  refine B5 j5 ?_
  (apply N6 j4; exact Q4; (first | rfl | assumption | (exact E1 (Lk.T b) Lk0 (k := i) (by omega))); exact j4)
  refine rfai (off := 0) (s := 1) (r := false) j3 kz j4 (rlic (v := .str _) j8 (X9 j5 ?_))
  refine rseq j6 ?_ ?_ <;> intro h4_7
  ·refine A3 (A1 (wT rfl (A2 (A0 (B5 j5 (D7 j5 (A3 (A1 (B1 (A8 (B0 (D4 ?_))))))))))))
   refine A8 (B0 ?_)
   first | (rw [fix, if_pos (hit_of hs (i := i) (by omega) h4_7).2, (hit_of hs (i := i) (by omega) h4_7).1]; exact fin rfl rfl)
  ·refine A3 (A1 (wF rfl (B2 (C2 (A1 (A0 (B5 j5 (D0 j3 ?_ ?_ j3 ?_))))))))
   ·exact Q4
   ·exact Q4
   refine D7 j5 (A3 (E5 ?_))
   exact J7 (ih (i + 1) ⟨by omega, N3 hI.2 h4_7⟩ (by omega)) (by (repeat first | exact LE.nil _ | refine LE.unk _ _ ?_ | refine LE.eq _ _ _ rfl ?_)) (by (repeat first | exact E3 | (refine E6 ?_ ?_; exact U5))) (Nat.le_refl _)
 ·refine A3 (A1 (wF rfl (E9 (F0 (D8 (C9 (A1 (A2 (A0 (D7 j5 (A3 (A1 ?_))))))))))))
  refine B1 ?_
  rw [fix, if_neg (hit_no fun j hj => hI.2 j (by omega))]; exact fin rfl rfl
open Go.V
set_option linter.unusedVariables false
set_option linter.unusedSimpArgs false
set_option maxRecDepth 20000
set_option maxHeartbeats 4000000
def mkG {α : Type} (f : α → List V) (z : List V) (L : List α) (i : Nat) : List (List V) := (L.take i).map f ++ List.replicate (L.length - i) z
theorem famA {w : Nat → Nat} {F : Nat → Option Blk} {n : Nat} {wr : List (Nat × Option Blk)} {h : Heap} {i : Nat} (inj : ∀ i j, i < n → j < n → w i = w j → i = j) (hi : i < n) : app (wr ++ famL w F n) h (w i) = F i := by
 rw [I6]; exact famI inj hi
theorem famAO {w : Nat → Nat} {F : Nat → Option Blk} {n : Nat} {wr : List (Nat × Option Blk)} {h : Heap} {id : Nat} (ho : ∀ i, i < n → w i ≠ id) : app (wr ++ famL w F n) h id = app wr h id := by
 rw [I6]; exact famO ho
def Sn.V (s : Sn) : List V := [.int .i64 s.cl, .int .i64 s.st, .int .i64 s.an.kd, .int .i64 s.an.tk, .int .i64 s.an.hd, .int .i64 s.an.ex]
def rwV (w : Nat → Nat) (L : List Lk) (i : Nat) : List V := (L.getD i Lk0).V (.view (w i) 0 (L.getD i Lk0).ws.length)
def lkR (w : Nat → Nat) (L : List Lk) : List (List V) := (List.range L.length).map (rwV w L)
def wsF (L : List Lk) (i : Nat) : Option Blk := some ⟨(L.getD i Lk0).ws.map wtV, 2, 123⟩
def zL : List V := [.str ⟨#[]⟩, .int .i64 0, .int .i64 0, .int .i64 0, .nsl]
theorem BM (w : Nat → Nat) (L : List Lk) : (lkR w L).length = L.length := by simp [lkR]
theorem lkR_get (w : Nat → Nat) (L : List Lk) {i : Nat} (h : i < L.length) : (lkR w L)[i]? = some (rwV w L i) := by simp [lkR, h]
theorem rowsSnV (fr : Bool) (L : List Sn) : ((L.map Sn.T).map fun r => r.map (T.toV fr)) = L.map Sn.V := by
 rw [List.map_map]; rfl
theorem lenSnF (fr : Bool) (L : List Sn) : ∀ c ∈ (L.map Sn.T).map (fun r => r.map (T.toV fr)), c.length = 6 := by
 rw [rowsSnV]; intro c hc; obtain ⟨r, hr, rfl⟩ := List.mem_map.1 hc; rfl
theorem rowsWtV (fr : Bool) (L : List Wt) : ((L.map wtT).map fun r => r.map (T.toV fr)) = L.map wtV := by
 rw [List.map_map]; rfl
theorem lenWtF (fr : Bool) (L : List Wt) : ∀ c ∈ (L.map wtT).map (fun r => r.map (T.toV fr)), c.length = 2 := by
 rw [rowsWtV]; intro c hc; obtain ⟨r, hr, rfl⟩ := List.mem_map.1 hc; rfl
theorem snapWs {h : Heap} {ids : List Nat} {r : Bool} {id m : Nat} {L : List Wt} (hid : id ∈ ids) (hb : h id = some ⟨L.map wtV, 2, 123⟩) (hm : m = L.length) : Snap h ids r (.view id 0 m) (.sl true (L.map wtT)) :=
 L7 (L.map wtT) hid hb (rowsWtV true L).symm (by rw [List.length_map]; exact hm)
theorem snapSn {h : Heap} {ids : List Nat} {r : Bool} {id m : Nat} {L : List Sn} (hid : id ∈ ids) (hb : h id = some ⟨L.map Sn.V, 6, 115⟩) (hm : m = L.length) : Snap h ids r (.view id 0 m) (.sl true (L.map Sn.T)) :=
 L7 (L.map Sn.T) hid hb (rowsSnV true L).symm (by rw [List.length_map]; exact hm)
theorem snapLk {h : Heap} {ids : List Nat} {r : Bool} {id m : Nat} {w : Nat → Nat} {L : List Lk} (hid : id ∈ ids) (hb : h id = some ⟨lkR w L, 5, 29⟩) (hm : m = L.length)
  (hw : ∀ i, i < L.length → w i ∈ ids) (hf : ∀ i, i < L.length → h (w i) = wsF L i) : Snap h ids r (.view id 0 m) (.sl true (L.map (Lk.T true))) := by
 subst hm
 have e : ((lkR w L).drop 0).take L.length = lkR w L := by rw [List.drop_zero, List.take_of_length_le (by rw [BM]; exact Nat.le_refl _)]
 have e2 : ∀ i, i < L.length → (L.map (Lk.T true))[i]? = some ((L.getD i Lk0).T true) := fun i h => E1 (Lk.T true) Lk0 h
 refine .view id 0 _ _ _ hid hb (by dsimp only; rw [BM]; omega) (by simp) (fun i x y h1 h2 => ?_) (fun i j x y h1 h2 => ?_)
 ·dsimp only at h1
  rw [e] at h1
  have hi : i < L.length := by have := (List.getElem?_eq_some_iff.1 h1).1; rw [BM] at this; exact this
  rw [lkR_get w L hi] at h1; rw [e2 i hi] at h2
  cases h1; cases h2; rfl
 ·dsimp only at h1
  rw [e] at h1
  unfold get2 at h1 h2
  by_cases hi : i < L.length
  ·rw [lkR_get w L hi] at h1; rw [e2 i hi] at h2
   match j with
   | 0 => cases h1; cases h2; exact .str _
   | 1 => cases h1; cases h2; exact .int _ _
   | 2 => cases h1; cases h2; exact .int _ _
   | 3 => cases h1; cases h2; exact .int _ _
   | 4 => cases h1; cases h2; exact snapWs (hw i hi) (hf i hi) rfl
   | j + 5 => exact absurd h1 nofun
  ·rw [show (lkR w L)[i]? = none from List.getElem?_eq_none (by rw [BM]; omega)] at h1; exact absurd h1 nofun
theorem snapTb {h : Heap} {ids : List Nat} {r : Bool} {lb sb m1 m2 : Nat} {w : Nat → Nat} {t : Tb} (hl : lb ∈ ids) (hs : sb ∈ ids) (hw : ∀ i, i < t.lk.length → w i ∈ ids)
  (k1 : h lb = some ⟨lkR w t.lk, 5, 29⟩) (kf : ∀ i, i < t.lk.length → h (w i) = wsF t.lk i) (k2 : h sb = some ⟨t.sn.map Sn.V, 6, 115⟩) (G0 : m1 = t.lk.length ∧ m2 = t.sn.length) :
  SnapA h ids r (.agg [.int .i64 t.tm, .int .i64 t.nx, .view lb 0 m1, .view sb 0 m2]) (.agg (t.T true true true)) := have ⟨e1, e2⟩ := G0;
 SnapC.agg (.cons _ _ _ _ (.int _ _) (.cons _ _ _ _ (.int _ _) (.cons _ _ _ _ (snapLk hl k1 e1 hw kf) (.cons _ _ _ _ (snapSn hs k2 e2) .nil))))
open Go.V
set_option linter.unusedVariables false
set_option linter.unusedSimpArgs false
set_option maxRecDepth 20000
set_option maxHeartbeats 4000000
open Go.V
set_option linter.unusedVariables false
set_option linter.unusedSimpArgs false
set_option maxRecDepth 20000
set_option maxHeartbeats 4000000
def szv (k : Int) (m : Nat) : Int := if k - m < 0 then -1 else k - m
open Go.V
set_option linter.unusedVariables false
set_option linter.unusedSimpArgs false
set_option maxRecDepth 20000
set_option maxHeartbeats 4000000
theorem U0 (l : List Int) : (strOf l).size = l.length := by
 simp [strOf, ByteArray.size]
theorem qd {a : Int} (h0 : 0 < a) (h1 : a ≤ 1152921504606846976) : 0 ≤ IntKind.i64.wrap (a.tdiv 10) ∧ IntKind.i64.wrap (a.tdiv 10) < a := by
 rw [Int.tdiv_eq_ediv_of_nonneg (by omega), wrap_i64 (by omega) (by omega)]; omega
theorem rd {a : Int} (h0 : 0 < a) (h1 : a ≤ 1152921504606846976) : 0 ≤ a.tmod 10 ∧ a.tmod 10 ≤ 9 := by
 rw [Int.tmod_eq_emod_of_nonneg (by omega)]; omega
theorem s94 (k : Int) (hk : 0 ≤ k ∧ k ≤ 1152921504606846976) : ∃ s : ByteArray, True ∧ Pure En 94 [.one (.int .i64 k)] [.one (.str s)] := by
 refine Pure.of_wpX Try.func94 rfl kb ?_
 refine A2 (A0 (raS j5 (A3 (A1 (A2 (A2 (A0 (B5 j5 ?_))))))))
 refine rle j6 ?_ ?_ <;> intro h1_1
 ·refine A3 (A1 (wT rfl (A2 (A0 (raS j5 (A3 (A1 (B1 (B0 ?_)))))))))
  first | exact ⟨_, trivial, fin rfl rfl⟩
 ·refine A3 (A1 (wF rfl (B2 (A1 (A2 (A0 (raS j5 (A3 (A1 (A2 (B4 (F6 ?_))))))))))))
  refine E8 (fun (a : Int × ByteArray × Nat) => [.int .i64 a.1, .unk, .unk, .str a.2.1]) (fun (a : Int × ByteArray × Nat) => hp []) (fun (a : Int × ByteArray × Nat) => a.2.2) (fun (a : Int × ByteArray × Nat) => 0 ≤ a.1 ∧ (a.2.1.size : Int) + a.1 ≤ k) (fun (a : Int × ByteArray × Nat) => a.1.toNat) (k, ⟨#[]⟩, 0) ?_ ?_ ?_ ?_ ?_
  ·exact ⟨by dsimp only; omega, by show ((0 : Nat) : Int) + k ≤ k; omega⟩
  ·(repeat first | exact LE.nil _ | refine LE.unk _ _ ?_ | refine LE.eq _ _ _ rfl ?_)
  ·exact E3
  ·exact Nat.le_refl _
  intro ⟨x, s, m⟩ hI ih
  dsimp only at hI ⊢
  have hq := fun h0 => qd (a := x) h0 (by omega)
  have hr := fun h0 => rd (a := x) h0 (by omega)
  refine F5 (A2 (A2 (A0 (B5 j5 ?_))))
  refine X1 j6 ?_ ?_ <;> intro h4_1
  ·refine A3 (A1 (wT rfl (B2 (A1 (B4 (A2 (A0 (B5 j5 (rrem j3 ?_ j3 ?_)))))))))
   ·exact Q44
   (have hr1 := hr (by omega); refine D0 j3 ?_ ?_ j3 ?_; omega; omega)
   refine rcv j7 (X3 (es := [[.int _ _]]) j4 kz kb rfl rfl j3 ?_)
   (apply rsg j4; (apply K3 rfl; exact Q0; (first | exact Nat.le_refl _ | omega | (simp; omega)); rfl); (intro s e; cases e); exact (show _ = List.map (fun b => [V.int .u8 b]) [_] from rfl); exact j3)
   refine X9 j5 (rcat j3 ?_ j3 ?_)
   ·exact Q44
   refine raS j5 (A3 (A1 (A0 (B5 j5 (rquo j3 ?_ j3 ?_)))))
   ·exact Q44
   refine D7 j5 (A3 (C2 (E5 ?_)))
   have hq1 := hq (by omega)
   exact J7 (ih (IntKind.i64.wrap (x.tdiv 10), strOf [IntKind.u8.wrap (48 + x.tmod 10)] ++ s, m + 1) ⟨by dsimp only; omega, by dsimp only; rw [ByteArray.size_append, U0]; show (((1 + s.size : Nat)) : Int) + _ ≤ _; omega⟩ (by dsimp only; omega)) (by (repeat first | exact LE.nil _ | refine LE.unk _ _ ?_ | refine LE.eq _ _ _ rfl ?_)) E3 (Nat.le_refl _)
  ·refine A3 (A1 (wF rfl (E9 (F0 (D8 (C9 (A1 (A2 (A0 (X9 j5 (rcat j3 ?_ j3 ?_)))))))))))
   ·exact Q44
   refine raS j5 (A3 (A1 (B1 ?_)))
   first | exact ⟨_, trivial, fin rfl rfl⟩
theorem mt_ex (k : Int) : ∃ s : ByteArray, 0 ≤ k ∧ k ≤ 1152921504606846976 → Pure En 94 [.one (.int .i64 k)] [.one (.str s)] := by
 by_cases h : 0 ≤ k ∧ k ≤ 1152921504606846976
 ·obtain ⟨s, _, h2⟩ := s94 k h; exact ⟨s, fun _ => h2⟩
 ·exact ⟨⟨#[]⟩, fun h' => absurd h' h⟩
noncomputable def Mt (k : Int) : ByteArray := Classical.choose (mt_ex k)
def mWt (y : Int) : Wt := (y, y + 1)
def mSn (y : Int) : Sn := ⟨y, y + 1, ⟨y + 1 + 1, y + 1 + 1 + 1, y + 1 + 1 + 1 + 1, y + 1 + 1 + 1 + 1 + 1⟩⟩
def MW (k : Int) (m : Nat) : List Wt := (List.range m).map fun (j : Nat) => mWt (k + 2 * (j : Int))
def MS (k : Int) (m : Nat) : List Sn := (List.range m).map fun (j : Nat) => mSn (k + 6 * (j : Int))
def mix {α : Type} (A L : List α) (i : Nat) : List α := A.take i ++ L.drop i
theorem mix_len {α : Type} {A L : List α} {i : Nat} (h : A.length = L.length) (hi : i ≤ L.length) : (mix A L i).length = L.length := by
 simp [mix]; omega
theorem mix_get {α : Type} {A L : List α} (d : α) {i j : Nat} (h : A.length = L.length) (hi : i ≤ L.length) : (mix A L i).getD j d = if j < i then A.getD j d else L.getD j d := by
 unfold mix
 rw [List.getD_eq_getElem?_getD]
 split
 ·rename_i hj
  rw [List.getElem?_append_left (by simp; omega), List.getElem?_take_of_lt hj, ← List.getD_eq_getElem?_getD]
 ·rename_i hj
  rw [List.getElem?_append_right (by simp; omega), List.getElem?_drop, List.length_take, ← List.getD_eq_getElem?_getD]
  congr 1; omega
open Go.V
set_option linter.unusedVariables false
set_option linter.unusedSimpArgs false
set_option maxRecDepth 20000
set_option maxHeartbeats 4000000
def kL (k : Int) : List Lk → Int
 | [] => k
 | l :: r => kL (k + 4 + 2 * (l.ws.length : Int)) r
theorem kL_snoc (k : Int) : ∀ (L : List Lk) (l : Lk), kL k (L ++ [l]) = kL k L + 4 + 2 * (l.ws.length : Int)
 | [], l => rfl
 | a :: r, l => kL_snoc (k + 4 + 2 * (a.ws.length : Int)) r l
theorem kL_take {k : Int} {L : List Lk} {i : Nat} (h : i < L.length) : kL k (L.take (i + 1)) = kL k (L.take i) + 4 + 2 * ((L.getD i Lk0).ws.length : Int) := by
 have e3 : L.take (i + 1) = L.take i ++ [L.getD i Lk0] := by rw [List.take_add_one]; simp [h]
 rw [e3, kL_snoc]
noncomputable def mLk (y : Int) (m : Nat) : Lk := ⟨Mt y, y + 1, y + 1 + 1, y + 1 + 1 + 1, MW (y + 1 + 1 + 1 + 1) m⟩
noncomputable def ML (k : Int) (L : List Lk) : List Lk := (List.range L.length).map fun i => mLk (kL k (L.take i)) (L.getD i Lk0).ws.length
theorem ML_len (k : Int) (L : List Lk) : (ML k L).length = L.length := by simp [ML]
theorem ML_get {k : Int} {L : List Lk} {i : Nat} (h : i < L.length) : (ML k L).getD i Lk0 = mLk (kL k (L.take i)) (L.getD i Lk0).ws.length := by simp [ML, List.getD_eq_getElem?_getD, h]
theorem mixL {k : Int} {L : List Lk} {i j : Nat} (hi : i ≤ L.length) : (mix (ML k L) L i).getD j Lk0 = if j < i then (ML k L).getD j Lk0 else L.getD j Lk0 := mix_get Lk0 (ML_len k L) hi
open Go.V
set_option linter.unusedVariables false
set_option linter.unusedSimpArgs false
set_option maxRecDepth 20000
set_option maxHeartbeats 4000000
open Go.V
set_option linter.unusedVariables false
set_option linter.unusedSimpArgs false
set_option maxRecDepth 20000
set_option maxHeartbeats 4000000
theorem o90 (fr : Bool) (L : List Sn) (hL : L.length ≤ 1048576) {h : Heap} {n : Nat} : V.Open En 90 [.sl fr true (L.map Sn.T)] h n (.view (n + 1) 0 L.length) [(n + 1, some ⟨L.map Sn.V, 6, 115⟩)] (n + 2) := by
 refine V.Open.of_wp Try.func90 rfl kb ?_
 refine A2 (A0 (raN j5 (A3 (A1 (A2 (A2 (A0 (AL j5 (rnil (c := false) j6 (A3 (A1 (wF rfl ?_))))))))))))
 refine B2 (A1 (A2 (A0 (X3 (es := []) j4 kz kb rfl rfl j3 (AL j5 ?_)))))
 (apply rap (s' := 48) rfl rfl; exact Q0; exact j2; rfl; exact j2; exact kz; rfl; exact (lenSnF fr L); (simp only [List.length_map]; omega); (simp only [List.length_map]; omega); exact j3)
 refine V9 j5 (A3 (A1 (B1 ?_)))
 exact G4 rfl (congrArg (V.view (n + 1) 0) (by simp)) (K9 (by
  intro j hj
  simp only [List.map_cons, List.map_nil, List.mem_cons, List.not_mem_nil, or_false] at hj
  rcases hj with rfl <;> (simp (disch := omega) only [↓app0, ↓appC, ↓updS, ↓updN, ↓hpS, ↓hpN]) <;> first | rfl | (exact congrArg (fun z => some (Blk.mk z 6 115)) (rowsSnV fr L))) (fun j hj hn => by
  simp only [List.map_cons, List.map_nil, List.mem_cons, List.not_mem_nil, or_false, not_or] at hn
  (simp (disch := omega) only [↓app0, ↓appC, ↓updS, ↓updN, ↓hpS, ↓hpN]) <;> rfl)) (Nat.le_refl _)
theorem o91 (fr : Bool) (L : List Wt) (hL : L.length ≤ 1048576) {h : Heap} {n : Nat} : V.Open En 91 [.sl fr true (L.map wtT)] h n (.view (n + 1) 0 L.length) [(n + 1, some ⟨L.map wtV, 2, 123⟩)] (n + 2) := by
 refine V.Open.of_wp Try.func91 rfl kb ?_
 refine A2 (A0 (raN j5 (A3 (A1 (A2 (A2 (A0 (AL j5 (rnil (c := false) j6 (A3 (A1 (wF rfl ?_))))))))))))
 refine B2 (A1 (A2 (A0 (X3 (es := []) j4 kz kb rfl rfl j3 (AL j5 ?_)))))
 (apply rap (s' := 16) rfl rfl; exact Q0; exact j2; rfl; exact j2; exact kz; rfl; exact (lenWtF fr L); (simp only [List.length_map]; omega); (simp only [List.length_map]; omega); exact j3)
 refine V9 j5 (A3 (A1 (B1 ?_)))
 exact G4 rfl (congrArg (V.view (n + 1) 0) (by simp)) (K9 (by
  intro j hj
  simp only [List.map_cons, List.map_nil, List.mem_cons, List.not_mem_nil, or_false] at hj
  rcases hj with rfl <;> (simp (disch := omega) only [↓app0, ↓appC, ↓updS, ↓updN, ↓hpS, ↓hpN]) <;> first | rfl | (exact congrArg (fun z => some (Blk.mk z 2 123)) (rowsWtV fr L))) (fun j hj hn => by
  simp only [List.map_cons, List.map_nil, List.mem_cons, List.not_mem_nil, or_false, not_or] at hn
  (simp (disch := omega) only [↓app0, ↓appC, ↓updS, ↓updN, ↓hpS, ↓hpN]) <;> rfl)) (Nat.le_refl _)
theorem flatSn (L : List Sn) {k : Nat} : ∀ id b, app [(k, some (Blk.mk (L.map Sn.V) 6 115))] (fun _ => none) id = some b → ∀ e ∈ b.es, ∀ x ∈ e, x.flat = true := by
 intro id b hb e he x hx
 have : b = Blk.mk (L.map Sn.V) 6 115 := by
  simp only [app] at hb
  by_cases h : id = k
  ·subst h; rw [upd_same] at hb; exact (Option.some.inj hb).symm
  ·rw [B8 _ _ h] at hb; cases hb
 subst this
 obtain ⟨s, _, rfl⟩ := List.mem_map.1 he
 simp only [Sn.V, List.mem_cons, List.not_mem_nil, or_false] at hx
 rcases hx with rfl | rfl | rfl | rfl | rfl | rfl <;> rfl
theorem rgSnoc (w : Nat → Nat) (L : List Lk) (i : Nat) : (List.range i).map (rwV w L) ++ [rwV w L i] = (List.range (i + 1)).map (rwV w L) := by
 rw [List.range_succ, List.map_append]; rfl
open Go.V
set_option linter.unusedVariables false
set_option linter.unusedSimpArgs false
set_option maxRecDepth 20000
set_option maxHeartbeats 4000000
theorem rgSnoc2 (w : Nat → Nat) (L : List Lk) (i : Nat) : ((List.range i).map (rwV w L)).drop 0 ++ [rwV w L i] = (List.range (i + 1)).map (rwV w L) := rgSnoc w L i
open Go.V
set_option linter.unusedVariables false
set_option linter.unusedSimpArgs false
set_option maxRecDepth 20000
set_option maxHeartbeats 4000000
noncomputable def lAt (t : Tb) (s : ByteArray) : Lk × Int := if s.size > 65536 then (Lk0, 2) else if ¬ t.OK then (Lk0, 1) else if ¬ hit s t.lk then (Lk0, 5) else (t.lk.getD (pos s t.lk) Lk0, 0)
theorem OKw {t : Tb} (h : t.OK) {i : Nat} (hi : i < t.lk.length) : (t.lk.getD i Lk0).ws.length ≤ 4 := (h.2.2.2.2.1 i hi).1.2.2.2.2.1
theorem fix_hit {s : ByteArray} {L : List Lk} (h : hit s L) : fix s L = (pos s L : Int) := if_pos h
theorem fix_no {s : ByteArray} {L : List Lk} (h : ¬ hit s L) : fix s L = -1 := if_neg h
open Go.V
set_option linter.unusedVariables false
set_option linter.unusedSimpArgs false
set_option maxRecDepth 20000
set_option maxHeartbeats 4000000
open Go.V
set_option linter.unusedVariables false
set_option linter.unusedSimpArgs false
set_option maxRecDepth 20000
set_option maxHeartbeats 4000000
end Go.Proofs.Ytknnniaoboaghaa
