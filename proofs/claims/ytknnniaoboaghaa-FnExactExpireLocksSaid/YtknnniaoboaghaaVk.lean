/- A logic over abstract states: functions, and calls of them. No conditions. -/
import Derived.Test.YtknnniaoboaghaaVj
namespace Go.V
open Go.RowKit (Below)
set_option linter.unusedSimpArgs false
set_option linter.unusedVariables false

/-- What is handed to a function, or handed back: a cell, or a struct's cells. -/
inductive A where
  | one (x : T)
  | agg (xs : List T)

def A.toV (fr : Bool) : A → V
  | .one x => x.toV fr
  | .agg xs => .agg (xs.map (T.toV fr))

/-- All that a function hands back. -/
def retV (fr : Bool) : List A → V
  | [a] => a.toV fr
  | as => .tup (as.map (A.toV fr))

inductive AR (I : Nat → Prop) (w : World) : A → Value → Prop
  | one (x : T) (v : Value) (h : TR I w x v) : AR I w (.one x) v
  | agg (xs : List T) (vs : Array Value) (hl : xs.length = vs.size) (h : ∀ (i : Nat) (x : T) (v : Value), xs[i]? = some x → vs[i]? = some v → TR I w x v) : AR I w (.agg xs) (.agg vs)

inductive RR (I : Nat → Prop) (w : World) : List A → Value → Prop
  | one (a : A) (v : Value) (h : AR I w a v) : RR I w [a] v
  | tup (as : List A) (vs : Array Value) (hne : as.length ≠ 1) (hl : as.length = vs.size) (h : ∀ (i : Nat) (a : A) (v : Value), as[i]? = some a → vs[i]? = some v → AR I w a v) : RR I w as (.tuple vs)

theorem AR.toV {c : Cx} {fr : Bool} {a : A} {v : Value} (h : AR (c.J fr) c.w a v) : VR c (a.toV fr) v := by
  cases h with
  | one x v h => exact h.toV
  | agg xs vs hl h =>
    refine .agg _ _ (by simpa using hl) fun i x v h1 h2 => ?_
    rw [List.getElem?_map] at h1
    cases hx : xs[i]? with
    | none => simp [hx] at h1
    | some y =>
      simp only [hx, Option.map_some, Option.some.injEq] at h1
      subst h1
      exact (h i y v hx h2).toV

theorem AR.mono {I I' : Nat → Prop} {w w' : World} {x : A} {v : Value} (h : AR I w x v) (hi : ∀ b, I b → I' b) (hk : ∀ b, I b → w'.heap[b]? = w.heap[b]?) : AR I' w' x v := by
  cases h with
  | one x v h => exact .one x v (h.mono hi hk)
  | agg xs vs hl h => exact .agg xs vs hl fun i x v h1 h2 => (h i x v h1 h2).mono hi hk

theorem RR.mono {I I' : Nat → Prop} {w w' : World} {x : List A} {v : Value} (h : RR I w x v) (hi : ∀ b, I b → I' b) (hk : ∀ b, I b → w'.heap[b]? = w.heap[b]?) : RR I' w' x v := by
  cases h with
  | one a v h => exact .one a v (h.mono hi hk)
  | tup ms vs hne hl h => exact .tup _ vs hne hl fun i a v h1 h2 => (h i a v h1 h2).mono hi hk

theorem RR.toV {c : Cx} {fr : Bool} {ls : List A} {v : Value} (h : RR (c.J fr) c.w ls v) : VR c (retV fr ls) v := by
  cases h with
  | one a v h => exact h.toV
  | tup ms vs hne hl h =>
    have : retV fr ls = .tup (ls.map (A.toV fr)) := by
      unfold retV
      split
      · simp at hne
      · rfl
    rw [this]
    refine .tup _ _ (by simpa using hl) fun i x v h1 h2 => ?_
    rw [List.getElem?_map] at h1
    cases hx : ls[i]? with
    | none => simp [hx] at h1
    | some y =>
      simp only [hx, Option.map_some, Option.some.injEq] at h1
      subst h1
      exact (h i y v hx h2).toV

/-- Is there a body to be entered? -/
def callP (P : Program) (f : FuncId) : Bool :=
  match P.funcs[f]? with
  | some fn => fn.body.isSome && fn.name != "runtime.NumGoroutine"
  | none => false

theorem run_callFunc {P : Program} {w : World} {f : FuncId} (h : callP P f = true) (args : Array Value) : (callFunc f args).run P w = .ok (.enter f args) w := by
  unfold callP at h
  cases hf : P.funcs[f]? with
  | none => simp [hf] at h
  | some fn =>
    simp only [hf, Bool.and_eq_true, bne_iff_ne, ne_eq] at h
    obtain ⟨h1, h2⟩ := h
    have h3 : fn.body.isNone = false := by cases hb : fn.body <;> simp_all
    have h4 : fn.body ≠ none := by intro h; simp [h] at h1
    simp [callFunc, hf, h2, h3, h4]

/-- A function of data: handed these it hands those back, in memory of its own, and what was there stays. -/
def Pure (E : Env) (f : FuncId) (args res : List A) : Prop :=
  callP E.P f = true ∧ ∀ (I : Nat → Prop) (w : World) (vs : Array Value), (∀ b, I b → b < w.heap.size) →
    (∀ g cs, E.G g = some cs → VR ⟨fun _ => none, I, w.heap.size, w⟩ (.iptr false cs) (.pointer (some ⟨g, 0, none⟩))) →
    args.length = vs.size → (∀ (i : Nat) (a : A) (v : Value), args[i]? = some a → vs[i]? = some v → AR I w a v) →
    Calls E.P f vs w fun e w' => ∃ v, e = .returned v ∧ Below w.heap.size w w' ∧ RR (fun b => w.heap.size ≤ b ∧ b < w'.heap.size) w' res v

/-- What a value of the call's own reads as, as data. r: is all of it to be new? -/
inductive Snap (h : Heap) (ids : List Nat) (r : Bool) : V → T → Prop
  | bool (b : Bool) : Snap h ids r (.bool b) (.bool b)
  | int (k : IntKind) (n : Int) : Snap h ids r (.int k n) (.int k n)
  | str (s : ByteArray) : Snap h ids r (.str s) (.str s)
  | nilp : Snap h ids r .nilp .nilp
  | nilf : Snap h ids r .nilf .nilf
  | nsl : Snap h ids r .nsl .nsl
  | sl (fr nn : Bool) (es : List (List T)) (hr : r = true → fr = true ∨ es = []) : Snap h ids r (.sl fr nn es) (.sl nn es)
  | nslW : Snap h ids r .nsl (.sl false [])
  | weak (x : V) (es : List (List T)) (hs : Snap h ids r x (.sl true es)) : Snap h ids r x (.sl false es)
  | view (id off len : Nat) (b : Blk) (es : List (List T)) (hid : id ∈ ids) (hb : h id = some b) (hle : off + len ≤ b.es.length) (hl : es.length = len)
      (hz : ∀ (i : Nat) (e : List V) (e' : List T), ((b.es.drop off).take len)[i]? = some e → es[i]? = some e' → e.length = e'.length)
      (hs : ∀ (i j : Nat) (x : V) (y : T), get2 ((b.es.drop off).take len) i j = some x → get2 es i j = some y → Snap h ids r x y) : Snap h ids r (.view id off len) (.sl true es)

theorem Snap.congr {h h2 : Heap} {ids : List Nat} {r : Bool} {x : V} {y : T} (hs : Snap h ids r x y) (he : ∀ id ∈ ids, h2 id = h id) : Snap h2 ids r x y := by
  induction hs with
  | bool b => exact .bool b
  | int k n => exact .int k n
  | str s => exact .str s
  | nilp => exact .nilp
  | nilf => exact .nilf
  | nsl => exact .nsl
  | nslW => exact .nslW
  | sl fr nn es hr => exact .sl fr nn es hr
  | weak x es hs ih => exact .weak x es ih
  | view id off len b es hid hb hle hl hz hs ih => exact .view id off len b es hid (by rw [he id hid]; exact hb) hle hl hz ih

/-- The blocks that a snapshot may lead to. -/
def Seen (c : Cx) (h : Heap) (r : Bool) (b : Nat) : Prop := (c.I b ∨ ∃ id x p, h id = some x ∧ c.ρ id = some p ∧ p.b = b) ∧ (r = true → c.B ≤ b)

theorem Snap.ok {E : Env} {c : Cx} {h : Heap} (hg : Good E c h) {ids : List Nat} {r : Bool} {x : V} {y : T} (hs : Snap h ids r x y) : ∀ {v : Value}, VR c x v → TR (Seen c h r) c.w y v := by
  induction hs with
  | bool b => intro v hv; rw [hv.bool_inv]; exact .bool b
  | int k n => intro v hv; rw [hv.int_inv]; exact .int k n
  | str s => intro v hv; rw [hv.str_inv]; exact .str s
  | nilp => intro v hv; rw [hv.nilp_inv]; exact .nilp
  | nilf => intro v hv; rw [hv.nilf_inv]; exact .nilf
  | nsl => intro v hv; rw [hv.nsl_inv]; exact .nsl
  | nslW =>
    intro v hv; rw [hv.nsl_inv]
    exact .sl false [] none 0 0 0 (fun _ _ => undef) rfl (Nat.le_refl _) (fun _ => ⟨rfl, rfl, rfl⟩) (fun A hA => by cases hA) (by simp) (fun A _ _ _ hA => by cases hA) (fun i j c hc => by simp [get2] at hc)
  | weak x es hs ih =>
    intro v hv
    have := ih hv
    cases this with
    | sl _ _ a len cap sz rd hlen hcap hnil hI hsz hrd hsub => exact .sl false es a len cap sz rd hlen hcap (fun h => nomatch (hnil h).1) hI hsz hrd hsub
  | sl fr nn es hr =>
    intro v hv
    cases hv with
    | sl _ _ _ _ hv =>
      by_cases hes : es = []
      · subst hes
        cases hv with
        | sl _ _ a len cap sz rd hlen hcap hnil hI hsz hrd hsub => exact .sl nn [] a len cap sz rd hlen hcap hnil (fun A hA hne => absurd rfl hne) hsz hrd (fun i j c hc => by simp [get2] at hc)
      · refine hv.mono (fun b hb => ⟨.inl hb.1, fun hr' => ?_⟩) (fun _ _ => rfl)
        rcases hr hr' with h1 | h1
        · exact hb.2 h1
        · exact absurd h1 hes
  | view id off len b es hid hb hle hl hz hs ih =>
    intro v hv
    cases hv with
    | view _ _ _ p o cap hp ho hlc hpm =>
      obtain ⟨cells, fz, q2, q3, q4, q5, q6, q7, q8⟩ := hg.cells hb hp hpm
      have hdl : ((b.es.drop off).take len).length = len := by simp; omega
      by_cases hlen0 : len = 0
      · subst hlen0
        have : es = [] := List.eq_nil_of_length_eq_zero hl
        subst this
        exact .sl true [] _ _ _ 0 (fun _ _ => undef) rfl hlc (fun h => by cases h) (fun A hA hne => absurd rfl hne) (by simp) (fun A i j c hA hc => by simp [get2] at hc) (fun i j c hc => by simp [get2] at hc)
      · obtain ⟨e1, e2⟩ := ho.resolve_left (by omega)
        have hget : ∀ i j y, get2 es i j = some y → ∃ x u, get2 ((b.es.drop off).take len) i j = some x ∧ cells[o + i * p.sz + j]? = some u ∧ VR c x u := by
          intro i j y hy
          unfold get2 at hy
          cases hi : es[i]? with
          | none => simp [hi] at hy
          | some e' =>
            simp only [hi, Option.bind_some] at hy
            have hil : i < len := by rw [← hl]; exact (List.getElem?_eq_some_iff.1 hi).1
            have hlt : off + i < b.es.length := by omega
            have he : ((b.es.drop off).take len)[i]? = some b.es[off + i] := by
              rw [List.getElem?_take_of_lt hil, List.getElem?_drop]; simp [hlt]
            have hjl : j < (b.es[off + i]).length := by
              rw [hz i _ e' he hi]; exact (List.getElem?_eq_some_iff.1 hy).1
            have hx : get2 ((b.es.drop off).take len) i j = some (b.es[off + i])[j] := by simp [get2, he, hjl]
            obtain ⟨u, g1, g2, g3⟩ := q8 (off + i) j (b.es[off + i])[j] (by simp [get2, hlt, hjl])
            refine ⟨_, u, hx, ?_, g2⟩
            rw [← g1, e1, q2]
            congr 1
            rw [Nat.add_mul]; omega
        refine .sl true es _ _ _ p.sz (fun i j => (cells[o + i * p.sz + j]?).getD undef) hl.symm hlc (fun h => by cases h) (fun A hA hne => ?_) (fun e' he' => ?_) (fun A i j y hA hy => ?_) (fun i j y hy => ?_)
        · simp only [Option.some.injEq] at hA
          subst hA
          exact ⟨rfl, .inr ⟨id, b, p, hb, hp, rfl⟩, fun _ => (hg.own id p hp).1⟩
        · obtain ⟨i, hi⟩ := List.getElem?_of_mem he'
          have hil : i < len := by rw [← hl]; exact (List.getElem?_eq_some_iff.1 hi).1
          have hlt : off + i < b.es.length := by omega
          have he : ((b.es.drop off).take len)[i]? = some b.es[off + i] := by
            rw [List.getElem?_take_of_lt hil, List.getElem?_drop]; simp [hlt]
          rw [← hz i _ e' he hi, q7 _ (List.getElem_mem hlt), q2]
        · simp only [Option.some.injEq] at hA
          subst hA
          obtain ⟨x, u, g1, g2, g3⟩ := hget i j y hy
          simp [World.cell?, q3, g2]
        · obtain ⟨x, u, g1, g2, g3⟩ := hget i j y hy
          rw [g2]
          exact ih i j x y g1 hy g3

inductive SnapA (h : Heap) (ids : List Nat) (r : Bool) : V → A → Prop
  | one (x : V) (y : T) (hs : Snap h ids r x y) : SnapA h ids r x (.one y)
  | agg (xs : List V) (ys : List T) (hl : xs.length = ys.length) (hs : ∀ (i : Nat) (x : V) (y : T), xs[i]? = some x → ys[i]? = some y → Snap h ids r x y) : SnapA h ids r (.agg xs) (.agg ys)

theorem SnapA.congr {h h2 : Heap} {ids : List Nat} {r : Bool} {x : V} {y : A} (hs : SnapA h ids r x y) (he : ∀ id ∈ ids, h2 id = h id) : SnapA h2 ids r x y := by
  cases hs with
  | one x y hs => exact .one x y (hs.congr he)
  | agg xs ys hl hs => exact .agg xs ys hl fun i x y h1 h2 => (hs i x y h1 h2).congr he

theorem SnapA.ok {E : Env} {c : Cx} {h : Heap} (hg : Good E c h) {ids : List Nat} {r : Bool} {x : V} {y : A} (hs : SnapA h ids r x y) {v : Value} (hv : VR c x v) : AR (Seen c h r) c.w y v := by
  cases hs with
  | one x y hs => exact .one y v (hs.ok hg hv)
  | agg xs ys hl hs =>
    obtain ⟨vs, rfl, h1, h2⟩ := hv.agg_inv
    refine .agg ys vs (by omega) fun i y v hy hv => ?_
    have hlt : i < xs.length := by rw [hl]; exact (List.getElem?_eq_some_iff.1 hy).1
    exact (hs i xs[i] y (by simp [hlt]) hy).ok hg (h2 i _ v (by simp [hlt]) hv)

/-- What a function may be called by: its name, or a closure over it. -/
def calleeV (E : Env) (t : Nat → V) (f : Operand) : Option (FuncId × List V) :=
  match E.eval t f with
  | .clo g caps => some (g, caps)
  | _ => none

section ops
variable {E : Env} {o : Oper} {t : Nat → V} {h : Heap} {n : Nat}

theorem run_call {c : Cx} {a : Act} {fo : Operand} {args : Array Operand} {tys : Array TypeId} {f : FuncId} {caps : List V} (ho : o.op = .call { callee := .value fo, args := args, argTypes := tys }) (hc : E.eval t fo = .clo f caps)
    (hx : ∀ x ∈ o.op.operands, VR c (E.eval t x) (a.eval x)) (hp : callP E.P f = true) :
    ∃ cs : Array Value, (execOp a.eval o).run E.P c.w = .ok (.enter f (args.map a.eval ++ cs)) c.w ∧ caps.length = cs.size ∧ ∀ (i : Nat) (x : V) (v : Value), caps[i]? = some x → cs[i]? = some v → VR c x v := by
  have h1 := hx fo (by simp [ho, Op.operands, Call.operands])
  rw [hc] at h1
  generalize hw : a.eval fo = w at h1
  cases h1 with
  | clo _ _ vs hl hh =>
    refine ⟨vs, ?_, hl, hh⟩
    simp [execOp, ho, hw, resolve, Deferred.ofValue, invoke, run_callFunc hp]

/-- The call of a function of data. -/
theorem op_call {fo : Operand} {args : Array Operand} {tys : Array TypeId} {f : FuncId} {ids : List Nat} {as rs : List A} (ho : o.op = .call { callee := .value fo, args := args, argTypes := tys }) (hc : E.eval t fo = .clo f [])
    (hl : args.size = as.length) (hs : ∀ (i : Nat) (x : Operand) (a : A), args[i]? = some x → as[i]? = some a → SnapA h ids false (E.eval t x) a) (hpure : Pure E f as rs) :
    OpOK E o t h n ids false (retV true rs) [] n := by
  intro c a h2 K Q hd hx hg hrd _ hf hK
  obtain ⟨cs, hrun, hcl, _⟩ := run_call ho hc hx hpure.1
  have hcs : cs = #[] := by
    have : cs.size = 0 := by simpa using hcl.symm
    exact Array.eq_empty_of_size_eq_zero this
  subst hcs
  simp only [Array.append_empty] at hrun
  unfold Oper.wp
  rw [hrun, Oper.upon_enter]
  have hlive : ∀ b, Seen c h2 false b → b < c.w.heap.size := by
    rintro b ⟨h1 | ⟨id, x, p, _, h4, rfl⟩, _⟩
    · exact hg.imm b h1
    · exact (hg.own id p h4).2
  refine Calls.mono (hpure.2 (Seen c h2 false) c.w (args.map a.eval) hlive (fun g cs hgc => ?_) (by simp [hl]) (fun i a' v ha hv => ?_)) ?_
  · have := hg.glob g cs hgc
    cases this with
    | iptr _ _ b off rd hI hrd' hsub =>
      refine .iptr false cs g 0 rd ⟨⟨.inl hI.1, by simp⟩, by simp⟩ hrd' fun j x hj => (hsub j x hj).mono (fun b hb => ⟨⟨.inl hb.1, by simp⟩, by simp⟩) fun _ _ => rfl
  · rw [Array.getElem?_map] at hv
    cases hx' : args[i]? with
    | none => simp [hx'] at hv
    | some x =>
      simp only [hx', Option.map_some, Option.some.injEq] at hv
      subst hv
      exact ((hs i x a' hx' ha).congr hrd).ok hg (hx x (by simp [ho, Op.operands, Call.operands]; exact .inr (Array.mem_of_getElem? hx')))
  · rintro e w' ⟨v, rfl, hb, hr⟩
    have hlt : ∀ k, k < c.w.heap.size → w'.heap[k]? = c.w.heap[k]? := fun k hk => hb.block k hk
    have hx2 : Ext c { c with I := fun b => c.I b ∨ (c.w.heap.size ≤ b ∧ b < w'.heap.size), w := w' } :=
      ⟨rfl, fun _ _ h => h, fun b h => .inl h, fun b hb' => hlt b (hg.imm b hb'), hb.mono hg.base⟩
    refine hK { c with I := fun b => c.I b ∨ (c.w.heap.size ≤ b ∧ b < w'.heap.size), w := w' } v hx2 ?_ (fun id h => .inl h) ?_
    · show Good E _ (app [] h2)
      refine ⟨fun id b hb' => ?_, hg.inj, fun b hb' => ?_, fun id b p hb' hp' hI => ?_, fun id p hp' => ?_, Nat.le_trans hg.base hb.size, fun g cs hgc => (hg.glob g cs hgc).mono hx2⟩
      · obtain ⟨p, q1, q2, q3⟩ := hg.blk id b hb'
        have hk : w'.heap[p.b]? = c.w.heap[p.b]? := hlt _ (hg.own id p q1).2
        exact ⟨p, q1, fun hm => (q2 hm).mono hx2 hk, fun hm => (q3 hm).mono hx2 hk⟩
      · have := hb.size
        rcases hb' with h1 | h1
        · have := hg.imm b h1; simp only; omega
        · exact h1.2
      · rcases hI with h1 | h1
        · exact hg.sep id b p hb' hp' h1
        · have := (hg.own id p hp').2; omega
      · have := hg.own id p hp'
        have := hb.size
        simp only; omega
    · refine (hr.mono (fun b hb' => ?_) (fun _ _ => rfl)).toV
      exact ⟨.inr hb', fun _ => Nat.le_trans hg.base hb'.1⟩

end ops

/-! ### Functions -/

/-- Of a result's variable: what it holds. -/
inductive ResV (P : Program) (t : Nat → V) (h : Heap) : ResultVar → V → Prop
  | tmp (i : Nat) : ResV P t h (.tmp i) (t i)
  | row (a : Nat) (ty : TypeId) (id i j k : Nat) (b : Blk) (cs : List V) (ha : t a = .ptr id i j) (hb : h id = some b) (hi : b.es[i]? = some cs) (hr : rowP P ty = some (true, k)) (hl : j + k ≤ cs.length) :
      ResV P t h (.cell a ty) (.agg ((cs.drop j).take k))
  | cell (a : Nat) (ty : TypeId) (id i j k : Nat) (b : Blk) (cs : List V) (v : V) (ha : t a = .ptr id i j) (hb : h id = some b) (hi : b.es[i]? = some cs) (hr : rowP P ty = some (false, k)) (hl : cs[j]? = some v) :
      ResV P t h (.cell a ty) v

def resOne (tmps : Array Value) : ResultVar → Sem Value
  | .tmp t => pure (tmps.getD t undef)
  | .cell p ty => do loadVar ty (← asAddr (tmps.getD p undef))

theorem results_eq (fn : Func) (tmps : Array Value) : results fn tmps = (do let vs ← fn.results.mapM (resOne tmps); pure (if h : vs.size = 1 then vs[0] else .tuple vs)) := by
  have : (fun r => match r with | .tmp t => (pure (tmps.getD t undef) : Sem Value) | .cell a t => do loadVar t (← asAddr (tmps.getD a undef))) = resOne tmps := by
    funext r; cases r <;> rfl
  rw [← this]
  rfl

theorem ResV.run {E : Env} {c : Cx} {h : Heap} (hg : Good E c h) {sz : Nat} {t : Nat → V} {a : Act} (hs : Slots sz t c a) {r : ResultVar} {x : V} (hr : ResV E.P t h r x) :
    ∃ v, (resOne a.tmps r).run E.P c.w = .ok v c.w ∧ VR c x v := by
  cases hr with
  | tmp i => exact ⟨_, rfl, hs.tmps i⟩
  | row p ty id i j k b cs ha hb hi hr hl =>
    have h1 := hs.tmps p
    rw [ha] at h1
    obtain ⟨pl, ⟨hp, hpm⟩, hv⟩ := h1.ptr_inv
    obtain ⟨d, hu, hd, hs'⟩ := rowP_spec hr
    obtain ⟨vs, hvl, hrange, hvr, _⟩ := hg.range hb hp hpm hi j k hl
    refine ⟨.agg vs.toArray, ?_, .agg _ _ (by simp [hvl]; omega) fun m y u h3 h4 => hvr m y u h3 (by simpa using h4)⟩
    have := run_loadVar_mid (P := E.P) c.w pl.b (pl.o + i * pl.sz + j) ty vs d hrange hu hd (by rw [hs', hvl])
    simp [resOne, hv, asAddr, this]
  | cell p ty id i j k b cs v ha hb hi hr hl =>
    have h1 := hs.tmps p
    rw [ha] at h1
    obtain ⟨pl, ⟨hp, hpm⟩, hv⟩ := h1.ptr_inv
    obtain ⟨d, hu, hd, hs'⟩ := rowP_spec hr
    have hlt : j + 1 ≤ cs.length := (List.getElem?_eq_some_iff.1 hl).1
    obtain ⟨vs, hvl, hrange, hvr, _⟩ := hg.range hb hp hpm hi j 1 hlt
    have hlt' : 0 < vs.length := by omega
    refine ⟨vs[0], ?_, hvr 0 x _ ?_ (by simp [hlt'])⟩
    · have := run_load_cell (P := E.P) (w := c.w) (b := pl.b) (o := pl.o + i * pl.sz + j) (v := vs[0]) hu hd (by have := hrange 0 vs[0] (by simp [hlt']); simpa using this)
      simp only [Instr.loadAt, Instr.sureAddr, Sem.run_bind, Sem.run_pure, Result.andThen_ok] at this
      simp only [resOne, hv, asAddr, Sem.run_bind, Sem.run_pure, Result.andThen_ok, this]
    · rw [List.getElem?_take_of_lt (by omega), List.getElem?_drop]; simpa using hl

/-- What all of a function's results are. -/
inductive ResL (P : Program) (t : Nat → V) (h : Heap) : List ResultVar → List V → Prop
  | nil : ResL P t h [] []
  | cons (r : ResultVar) (rs : List ResultVar) (x : V) (xs : List V) (h1 : ResV P t h r x) (h2 : ResL P t h rs xs) : ResL P t h (r :: rs) (x :: xs)

theorem ResL.run {E : Env} {c : Cx} {h : Heap} (hg : Good E c h) {sz : Nat} {t : Nat → V} {a : Act} (hs : Slots sz t c a) {rs : List ResultVar} {xs : List V} (hr : ResL E.P t h rs xs) :
    ∃ vs : List Value, (rs.mapM (resOne a.tmps)).run E.P c.w = .ok vs c.w ∧ xs.length = vs.length ∧
      ∀ (i : Nat) (x : V) (v : Value), xs[i]? = some x → vs[i]? = some v → VR c x v := by
  induction hr with
  | nil => exact ⟨[], by simp, rfl, by simp⟩
  | cons r rs x xs h1 h2 ih =>
    obtain ⟨v, g1, g2⟩ := h1.run hg hs
    obtain ⟨vs, g3, g4, g5⟩ := ih
    refine ⟨v :: vs, ?_, by simp [g4], fun i y u hy hu => ?_⟩
    · rw [List.mapM_cons]
      simp only [Sem.run_bind]
      rw [g1]
      simp only [Result.andThen_ok, g3, Sem.run_pure]
    · cases i with
      | zero =>
        simp only [List.getElem?_cons_zero, Option.some.injEq] at hy hu
        subst hy; subst hu; exact g2
      | succ i => exact g5 i y u (by simpa using hy) (by simpa using hu)

theorem results_run {E : Env} {c : Cx} {h : Heap} (hg : Good E c h) {sz : Nat} {t : Nat → V} {a : Act} (hs : Slots sz t c a) {fn : Func} {xs : List V} (hr : ResL E.P t h fn.results.toList xs) :
    ∃ vs : List Value, (results fn a.tmps).run E.P c.w = .ok (if h : vs.toArray.size = 1 then vs.toArray[0] else .tuple vs.toArray) c.w ∧ xs.length = vs.length ∧
      ∀ (i : Nat) (x : V) (v : Value), xs[i]? = some x → vs[i]? = some v → VR c x v := by
  obtain ⟨vs, h1, h2, h3⟩ := hr.run hg hs
  refine ⟨vs, ?_, h2, h3⟩
  rw [results_eq, Sem.run_bind, Array.mapM_eq_mapM_toList, Sem.run_map, h1]
  rfl

/-- A function of data, by its body. -/
theorem Pure.of_exec {E : Env} {f : FuncId} {fn : Func} {k : Code} {args res : List A} {x : Ex} {t' : Nat → V} {h' : Heap} {n' : Nat} {xs : List V} {ids : List Nat} (hf : E.P.funcs[f]? = some fn) (hb : fn.body = some k) (hn : args.length ≤ fn.ntmps)
    (he : Exec E fn.ntmps k (fun i => ((args.map (A.toV false))[i]?).getD .unk) (fun _ => none) 0 x t' h' n') (hx : x = .norm ∨ x = .ret) (hr : ResL E.P t' h' fn.results.toList xs)
    (hl : xs.length = res.length) (hs : ∀ (i : Nat) (x : V) (a : A), xs[i]? = some x → res[i]? = some a → SnapA h' ids true x a) (hnm : (fn.name != "runtime.NumGoroutine") = true) : Pure E f args res := by
  refine ⟨by simp only [callP, hf, hb, hnm, Option.isSome_some, Bool.and_self], fun I w vs hI hgl hal har => ?_⟩
  refine calls_of_wp hf hb ?_
  let c0 : Cx := ⟨fun _ => none, I, w.heap.size, w⟩
  have hg0 : Good E c0 (fun _ => none) := ⟨fun id b h => by simp at h, fun id id' b b' p p' h => by simp at h, hI, fun id b p h => by simp at h, fun id p h => by simp [c0] at h, Nat.le_refl _, hgl⟩
  have hs0 : Slots fn.ntmps (fun i => ((args.map (A.toV false))[i]?).getD .unk) c0 { tmps := vs ++ Array.replicate (fn.ntmps - vs.size) undef, defers := [] } := by
    refine ⟨by simp; omega, fun i => ?_, rfl⟩
    by_cases hi : i < args.length
    · have hiv : i < vs.size := by omega
      have h1 : (vs ++ Array.replicate (fn.ntmps - vs.size) undef).getD i undef = vs[i] := by
        simp [Array.getElem?_append_left hiv, hiv]
      rw [h1]
      have h2 : ((args.map (A.toV false))[i]?).getD .unk = args[i].toV false := by simp [hi]
      rw [h2]
      refine (AR.mono (har i args[i] vs[i] (by simp [hi]) (by simp [hiv])) (fun b hb => ⟨hb, by simp⟩) (fun _ _ => rfl)).toV
    · have h2 : ((args.map (A.toV false))[i]?).getD .unk = .unk := by simp [hi]
      rw [h2]; exact .unk _
  refine wp_mono (he.2 c0 _ hs0 hg0 (fun _ _ => rfl)) ?_
  rintro e a' w' ⟨rfl, c', rfl, hxt, hs', hg', hd'⟩
  obtain ⟨us, h1, h2, h3⟩ := results_run hg' hs' hr
  have hB : c'.B = w.heap.size := hxt.B
  have hlive : ∀ b, Seen c' h' true b → w.heap.size ≤ b ∧ b < c'.w.heap.size := by
    rintro b ⟨h4 | ⟨id, y, p, _, h5, rfl⟩, h6⟩
    · exact ⟨by have := h6 rfl; omega, hg'.imm b h4⟩
    · exact ⟨by have := h6 rfl; omega, (hg'.own id p h5).2⟩
  have hbelow : Below w.heap.size w c'.w := hxt.below
  have key : RR (fun b => w.heap.size ≤ b ∧ b < c'.w.heap.size) c'.w res (if h : us.toArray.size = 1 then us.toArray[0] else .tuple us.toArray) := by
    have hulen : us.length = res.length := by omega
    have hone : ∀ (i : Nat) (a : A) (v : Value), res[i]? = some a → us[i]? = some v → AR (fun b => w.heap.size ≤ b ∧ b < c'.w.heap.size) c'.w a v := by
      intro i a v ha hv
      have hlt : i < xs.length := by rw [hl]; exact (List.getElem?_eq_some_iff.1 ha).1
      exact ((hs i xs[i] a (by simp [hlt]) ha).ok hg' (h3 i xs[i] v (by simp [hlt]) hv)).mono hlive (fun _ _ => rfl)
    split
    · rename_i hsz
      have hul : us.length = 1 := by simpa using hsz
      have hrl : res.length = 1 := by omega
      match res, us, hrl, hul, hone with
      | [a], [u], _, _, hone => exact .one a u (hone 0 a u rfl rfl)
    · rename_i hsz
      refine .tup res _ (by simp at hsz; omega) (by simp; omega) fun i a v ha hv => hone i a v ha (by simpa using hv)
  rcases hx with rfl | rfl
  · exact ⟨hs'.defers, _, h1, _, rfl, hbelow, key⟩
  · exact ⟨hs'.defers, _, h1, _, rfl, hbelow, key⟩

attribute [irreducible] Pure
end Go.V
