/- A logic over abstract states: the rules in the form in which a proof applies them, one behind the other; calls that share their caller's memory. No conditions. -/
import Derived.Test.YtknnniaoboaghaaVk
namespace Go.V
open Go.RowKit (Below)
set_option linter.unusedSimpArgs false
set_option linter.unusedVariables false

abbrev Post := Ex → (Nat → V) → Heap → Nat → Prop

/-- The code comes to a state of which Q holds. -/
def WP (E : Env) (sz : Nat) (k : Code) (t : Nat → V) (h : Heap) (n : Nat) (Q : Post) : Prop := ∃ x t' h' n', Exec E sz k t h n x t' h' n' ∧ Q x t' h' n'

/-- A region's operations, from here on. -/
def WR (E : Env) (sz : Nat) (ops : Array Oper) (l : List Oper) (t : Nat → V) (h : Heap) (n : Nat) (Q : (Nat → V) → Heap → Nat → Prop) : Prop := ∃ es t' h' n', Runs E sz ops l t h n es t' h' n' ∧ Q t' h' n'

/-- The operations of a region that draws, from here on; 'pre': what those ahead did. -/
def WD (E : Env) (sz : Nat) (ops : Array Oper) (bl : List Nat) (pre : List Ef) (l : List Oper) (t : Nat → V) (h : Heap) (n : Nat) (Q : (Nat → V) → Heap → Nat → Prop) : Prop :=
  ∃ es t' h' n', Runs E sz ops l t h n es t' h' n' ∧ ClearL (pre.reverse ++ es) (residE ops.size bl (pre.reverse ++ es)) ∧ Q t' h' n'

def seqQ (E : Env) (sz : Nat) (k : Code) (Q : Post) : Post
  | .norm, t, h, n => WP E sz k t h n Q
  | x, t, h, n => Q x t h n

def blockQ (id : Nat) (Q : Post) : Post
  | .exit i, t, h, n => if i = id then Q .norm t h n else Q (.exit i) t h n
  | x, t, h, n => Q x t h n

/-- A loop, at the head of a round. -/
def WL (E : Env) (sz : Nat) (k : Code) (t : Nat → V) (h : Heap) (n : Nat) (Q : Post) : Prop := ∃ x t' h' n', Loops E sz k t h n x t' h' n' ∧ Q x t' h' n'

def loopQ (E : Env) (sz : Nat) (k : Code) (Q : Post) : Post
  | .norm, t, h, n => WL E sz k t h n Q
  | x, t, h, n => Q x t h n

section rules
variable {E : Env} {sz : Nat} {t : Nat → V} {h : Heap} {n : Nat} {Q : Post} {ops : Array Oper} {l : List Oper} {o : Oper} {bl : List Nat} {pre : List Ef} {R : (Nat → V) → Heap → Nat → Prop}

theorem WP.mono {k : Code} {Q' : Post} (w : WP E sz k t h n Q) (hq : ∀ x t h n, Q x t h n → Q' x t h n) : WP E sz k t h n Q' :=
  let ⟨x, t', h', n', e, q⟩ := w; ⟨x, t', h', n', e, hq _ _ _ _ q⟩

theorem wSkip (q : Q .norm t h n) : WP E sz .skip t h n Q := ⟨_, _, _, _, Exec.skip, q⟩
theorem wRet (q : Q .ret t h n) : WP E sz .ret t h n Q := ⟨_, _, _, _, Exec.ret, q⟩
theorem wExit {id : Nat} (q : Q (.exit id) t h n) : WP E sz (.exit id) t h n Q := ⟨_, _, _, _, Exec.exit id, q⟩
theorem wSeq {k1 k2 : Code} (w : WP E sz k1 t h n (seqQ E sz k2 Q)) : WP E sz (.seq k1 k2) t h n Q := by
  obtain ⟨x, t', h', n', e, q⟩ := w
  cases x with
  | norm =>
    obtain ⟨x2, t2, h2, n2, e2, q2⟩ := q
    exact ⟨x2, t2, h2, n2, e.seq e2, q2⟩
  | exit id => exact ⟨_, _, _, _, e.seq_out (by simp), q⟩
  | ret => exact ⟨_, _, _, _, e.seq_out (by simp), q⟩
theorem qSeq {k : Code} (w : WP E sz k t h n Q) : seqQ E sz k Q .norm t h n := w
theorem qSeqR {k : Code} (w : Q .ret t h n) : seqQ E sz k Q .ret t h n := w
theorem qSeqX {k : Code} {id : Nat} (w : Q (.exit id) t h n) : seqQ E sz k Q (.exit id) t h n := w
theorem wT {c : Operand} {k1 k2 : Code} (hb : E.eval t c = .bool true) (w : WP E sz k1 t h n Q) : WP E sz (.cond c k1 k2) t h n Q :=
  let ⟨x, t', h', n', e, q⟩ := w; ⟨x, t', h', n', e.cond_t hb, q⟩
theorem wF {c : Operand} {k1 k2 : Code} (hb : E.eval t c = .bool false) (w : WP E sz k2 t h n Q) : WP E sz (.cond c k1 k2) t h n Q :=
  let ⟨x, t', h', n', e, q⟩ := w; ⟨x, t', h', n', e.cond_f hb, q⟩
theorem wBlock {id : Nat} {k : Code} (w : WP E sz k t h n (blockQ id Q)) : WP E sz (.block id k) t h n Q := by
  obtain ⟨x, t', h', n', e, q⟩ := w
  cases x with
  | norm => exact ⟨.norm, _, _, _, e.block rfl, q⟩
  | ret => exact ⟨.ret, _, _, _, e.block rfl, q⟩
  | exit i =>
    by_cases hi : i = id
    · simp only [blockQ, hi, if_true] at q
      exact ⟨.norm, _, _, _, e.block (by simp [Ex.inBlock, hi]), q⟩
    · simp only [blockQ, hi, if_false] at q
      exact ⟨.exit i, _, _, _, e.block (by simp [Ex.inBlock, hi]), q⟩
theorem qBlock {id : Nat} (q : Q .norm t h n) : blockQ id Q .norm t h n := q
theorem qBlockR {id : Nat} (q : Q .ret t h n) : blockQ id Q .ret t h n := q
theorem qBlockX {id : Nat} (q : Q .norm t h n) : blockQ id Q (.exit id) t h n := by simp only [blockQ, if_true]; exact q
theorem wLoop {k : Code} (w : WL E sz k t h n Q) : WP E sz (.loop k) t h n Q :=
  let ⟨x, t', h', n', e, q⟩ := w; ⟨x, t', h', n', Exec.loop e, q⟩
/-- One round of a loop; behind it the loop again. -/
theorem lStep {k : Code} (w : WP E sz k t h n (loopQ E sz k Q)) : WL E sz k t h n Q := by
  obtain ⟨x, t', h', n', e, q⟩ := w
  cases x with
  | norm =>
    obtain ⟨x2, t2, h2, n2, e2, q2⟩ := q
    exact ⟨x2, t2, h2, n2, .more e e2, q2⟩
  | exit id => exact ⟨_, _, _, _, .last e (by simp), q⟩
  | ret => exact ⟨_, _, _, _, .last e (by simp), q⟩
theorem qLoop {k : Code} (w : WL E sz k t h n Q) : loopQ E sz k Q .norm t h n := w
theorem qLoopR {k : Code} (q : Q .ret t h n) : loopQ E sz k Q .ret t h n := q
theorem qLoopX {k : Code} {id : Nat} (q : Q (.exit id) t h n) : loopQ E sz k Q (.exit id) t h n := q
theorem WL.mono {k : Code} {Q' : Post} (w : WL E sz k t h n Q) (hq : ∀ x t h n, Q x t h n → Q' x t h n) : WL E sz k t h n Q' :=
  let ⟨x, t', h', n', e, q⟩ := w; ⟨x, t', h', n', e, hq _ _ _ _ q⟩

theorem wRegion {id : Nat} {l : List Oper} (w : WR E sz l.toArray l t h n (Q .norm)) : WP E sz (.region id l.toArray false) t h n Q := by
  obtain ⟨es, t', h', n', r, q⟩ := w
  exact ⟨_, _, _, _, Exec.region (by simpa using r), q⟩
theorem wDraw {id : Nat} {l : List Oper} (bl : List Nat) (hm : E.P.follows .mixedOrders = true) (hst : statOK l.toArray bl = true) (w : WD E sz l.toArray bl [] l t h n (Q .norm)) : WP E sz (.region id l.toArray true) t h n Q := by
  obtain ⟨es, t', h', n', r, hc, q⟩ := w
  exact ⟨_, _, _, _, Exec.draw bl _ hm hst (by simpa using r) rfl (by simpa using hc), q⟩

theorem rNil (q : R t h n) : WR E sz ops [] t h n R := ⟨_, _, _, _, .nil t h n, q⟩
theorem rOp {rd : List Nat} {tot : Bool} {v : V} {wr : List (Nat × Option Blk)} {n1 : Nat} (hop : OpOK E o t h n rd tot v wr n1) (hd : dstOK sz o.dst = true) (hg : guardV ops t o = some true) (hn : n ≤ n1) (hz : wr = [] → tot = false → n = n1)
    (w : WR E sz ops l (updO t o.dst v) (app wr h) n1 R) : WR E sz ops (o :: l) t h n R := by
  obtain ⟨es, t', h', n', r, q⟩ := w
  exact ⟨_, _, _, _, .op o l t h n rd tot v wr n1 es t' h' n' hd hg hop hn hz r, q⟩
theorem rOpD {d : Nat} {rd : List Nat} {tot : Bool} {v : V} {wr : List (Nat × Option Blk)} {n1 : Nat} (hop : OpOK E o t h n rd tot v wr n1) (hdd : o.dst = some d) (hd : Nat.blt d sz = true) (hg : guardV ops t o = some true) (hn : n ≤ n1) (hz : wr = [] → tot = false → n = n1)
    (w : WR E sz ops l (upd t d v) (app wr h) n1 R) : WR E sz ops (o :: l) t h n R := rOp hop (by rw [hdd]; simpa [dstOK] using hd) hg hn hz (by rw [hdd]; exact w)
/-- An operation that leaves memory as it is. -/
theorem r0 {rd : List Nat} {v : V} (hop : OpOK E o t h n rd false v [] n) {d : Nat} (hdd : o.dst = some d) (hd : Nat.blt d sz = true) (hg : guardV ops t o = some true)
    (w : WR E sz ops l (upd t d v) h n R) : WR E sz ops (o :: l) t h n R := rOpD hop hdd hd hg (Nat.le_refl _) (fun _ _ => rfl) w
theorem rSkip {d : Nat} (hdd : o.dst = some d) (hd' : Nat.blt d sz = true) (hg : guardV ops t o = some false) (w : WR E sz ops l (upd t d (.tup [])) h n R) : WR E sz ops (o :: l) t h n R := by
  have hd : dstOK sz o.dst = true := by rw [hdd]; simpa [dstOK] using hd'
  have e : upd t d (.tup []) = updO t o.dst (.tup []) := by rw [hdd]; rfl
  rw [e] at w
  obtain ⟨es, t', h', n', r, q⟩ := w
  exact ⟨_, _, _, _, .skip o l t h n es t' h' n' hd hg r, q⟩

theorem dNil (hc : ClearL pre.reverse (residE ops.size bl pre.reverse)) (q : R t h n) : WD E sz ops bl pre [] t h n R := ⟨[], _, _, _, .nil t h n, by simpa using hc, q⟩
theorem dOp {rd : List Nat} {tot : Bool} {v : V} {wr : List (Nat × Option Blk)} {n1 : Nat} (hop : OpOK E o t h n rd tot v wr n1) (hd : dstOK sz o.dst = true) (hg : guardV ops t o = some true) (hn : n ≤ n1) (hz : wr = [] → tot = false → n = n1)
    (w : WD E sz ops bl (⟨false, v, rd, tot, wr, n, n1⟩ :: pre) l (updO t o.dst v) (app wr h) n1 R) : WD E sz ops bl pre (o :: l) t h n R := by
  obtain ⟨es, t', h', n', r, hc, q⟩ := w
  exact ⟨_, _, _, _, .op o l t h n rd tot v wr n1 es t' h' n' hd hg hop hn hz r, by simpa using hc, q⟩
theorem dOpD {d : Nat} {rd : List Nat} {tot : Bool} {v : V} {wr : List (Nat × Option Blk)} {n1 : Nat} (hop : OpOK E o t h n rd tot v wr n1) (hdd : o.dst = some d) (hd : Nat.blt d sz = true) (hg : guardV ops t o = some true) (hn : n ≤ n1) (hz : wr = [] → tot = false → n = n1)
    (w : WD E sz ops bl (⟨false, v, rd, tot, wr, n, n1⟩ :: pre) l (upd t d v) (app wr h) n1 R) : WD E sz ops bl pre (o :: l) t h n R := dOp hop (by rw [hdd]; simpa [dstOK] using hd) hg hn hz (by rw [hdd]; exact w)
theorem d0 {rd : List Nat} {v : V} (hop : OpOK E o t h n rd false v [] n) {d : Nat} (hdd : o.dst = some d) (hd : Nat.blt d sz = true) (hg : guardV ops t o = some true)
    (w : WD E sz ops bl (⟨false, v, rd, false, [], n, n⟩ :: pre) l (upd t d v) h n R) : WD E sz ops bl pre (o :: l) t h n R := dOpD hop hdd hd hg (Nat.le_refl _) (fun _ _ => rfl) w
theorem dSkip {d : Nat} (hdd : o.dst = some d) (hd' : Nat.blt d sz = true) (hg : guardV ops t o = some false) (w : WD E sz ops bl (⟨true, .tup [], [], false, [], n, n⟩ :: pre) l (upd t d (.tup [])) h n R) : WD E sz ops bl pre (o :: l) t h n R := by
  have hd : dstOK sz o.dst = true := by rw [hdd]; simpa [dstOK] using hd'
  have e : upd t d (.tup []) = updO t o.dst (.tup []) := by rw [hdd]; rfl
  rw [e] at w
  obtain ⟨es, t', h', n', r, hc, q⟩ := w
  exact ⟨_, _, _, _, .skip o l t h n es t' h' n' hd hg r, by simpa using hc, q⟩

/-- The value that an operation gives, under another name. -/
theorem OpOK.to {rd : List Nat} {tot : Bool} {v v' : V} {wr : List (Nat × Option Blk)} {n1 : Nat} (hop : OpOK E o t h n rd tot v wr n1) (e : v = v') : OpOK E o t h n rd tot v' wr n1 := e ▸ hop

theorem oMv {x : Operand} {v : V} (ho : o.op = .move x) (hv : E.eval t x = v) : OpOK E o t h n [] false v [] n := (op_move ho).to hv
theorem oAs {x : Operand} {v : V} (ho : o.op = .assign x) (hv : E.eval t x = v) : OpOK E o t h n [] false v [] n := (op_assign ho).to hv
theorem oPk {x y z : Operand} {k : Bool} {v : V} (ho : o.op = .pick x y z) (hc : E.eval t x = .bool k) (hv : pickV k (E.eval t y) (E.eval t z) = v) : OpOK E o t h n [] false v [] n := (op_pick ho hc).to hv

/-- A function of data. -/
def FinOK (E : Env) (fn : Func) (res : List A) (x : Ex) (t : Nat → V) (h : Heap) (n : Nat) : Prop :=
  (x = .norm ∨ x = .ret) ∧ ∃ (xs : List V) (ids : List Nat), ResL E.P t h fn.results.toList xs ∧ xs.length = res.length ∧ ∀ (i : Nat) (x : V) (a : A), xs[i]? = some x → res[i]? = some a → SnapA h ids true x a

/-- What a function hands back, read off its last state. -/
def resV (P : Program) (t : Nat → V) (h : Heap) : ResultVar → Option V
  | .tmp i => some (t i)
  | .cell a ty => match t a with
    | .ptr id i j => match h id with
      | some b => match b.es[i]? with
        | some cs => match rowP P ty with
          | some (true, k) => if j + k ≤ cs.length then some (.agg ((cs.drop j).take k)) else none
          | some (false, _) => cs[j]?
          | none => none
        | none => none
      | none => none
    | _ => none

def resL (P : Program) (t : Nat → V) (h : Heap) : List ResultVar → Option (List V)
  | [] => some []
  | r :: rs => match resV P t h r, resL P t h rs with
    | some x, some xs => some (x :: xs)
    | _, _ => none

theorem resV_ok {P : Program} {t : Nat → V} {h : Heap} {r : ResultVar} {x : V} (e : resV P t h r = some x) : ResV P t h r x := by
  cases r with
  | tmp i => simp only [resV, Option.some.injEq] at e; subst e; exact .tmp i
  | cell a ty =>
    simp only [resV] at e
    split at e
    · rename_i id i j ha
      split at e
      · rename_i b hb
        split at e
        · rename_i cs hi
          split at e
          · rename_i k hr
            split at e
            · rename_i hl
              simp only [Option.some.injEq] at e
              subst e
              exact .row _ _ id i j k b cs ha hb hi hr hl
            · cases e
          · rename_i k hr
            exact .cell _ _ id i j k b cs x ha hb hi hr e
          · cases e
        · cases e
      · cases e
    · cases e

theorem resL_ok {P : Program} {t : Nat → V} {h : Heap} : ∀ {rs : List ResultVar} {xs : List V}, resL P t h rs = some xs → ResL P t h rs xs
  | [], xs, e => by simp only [resL, Option.some.injEq] at e; subst e; exact .nil
  | r :: rs, xs, e => by
    unfold resL at e
    split at e
    · rename_i x ys h1 h2
      simp only [Option.some.injEq] at e
      subst e
      exact .cons r rs x ys (resV_ok h1) (resL_ok h2)
    · cases e

/-- A value that leads to no block of the call's own, as data. r: is all of it to be new? -/
def cellT (r : Bool) : V → Option T
  | .bool b => some (.bool b)
  | .int k n => some (.int k n)
  | .str s => some (.str s)
  | .nilp => some .nilp
  | .nilf => some .nilf
  | .nsl => some .nsl
  | .sl fr nn es => if !r || fr then some (.sl nn es) else none
  | _ => none

def cellsT (r : Bool) : List V → Option (List T)
  | [] => some []
  | x :: xs => match cellT r x, cellsT r xs with
    | some y, some ys => some (y :: ys)
    | _, _ => none

def dataA (r : Bool) : V → Option A
  | .agg xs => (cellsT r xs).map .agg
  | x => (cellT r x).map .one

def dataL (r : Bool) : List V → Option (List A)
  | [] => some []
  | x :: xs => match dataA r x, dataL r xs with
    | some y, some ys => some (y :: ys)
    | _, _ => none

theorem cellT_ok {h : Heap} {ids : List Nat} {r : Bool} {x : V} {y : T} (e : cellT r x = some y) : Snap h ids r x y := by
  unfold cellT at e
  split at e <;> try (simp only [Option.some.injEq] at e; subst e; constructor; done)
  · rename_i fr nn es
    split at e
    · rename_i hc
      simp only [Option.some.injEq] at e; subst e
      refine .sl fr nn es fun hr => ?_
      subst hr
      simp at hc
      exact .inl hc
    · cases e
  · cases e

theorem cellsT_ok {h : Heap} {ids : List Nat} {r : Bool} : ∀ {xs : List V} {ys : List T}, cellsT r xs = some ys → xs.length = ys.length ∧ ∀ (i : Nat) (x : V) (y : T), xs[i]? = some x → ys[i]? = some y → Snap h ids r x y
  | [], ys, e => by simp only [cellsT, Option.some.injEq] at e; subst e; exact ⟨rfl, by simp⟩
  | x :: xs, ys, e => by
    unfold cellsT at e
    split at e
    · rename_i y zs h1 h2
      simp only [Option.some.injEq] at e
      subst e
      obtain ⟨g1, g2⟩ := cellsT_ok (h := h) (ids := ids) h2
      refine ⟨by simp [g1], fun i u v hu hv => ?_⟩
      cases i with
      | zero =>
        simp only [List.getElem?_cons_zero, Option.some.injEq] at hu hv
        subst hu; subst hv; exact cellT_ok h1
      | succ i => exact g2 i u v (by simpa using hu) (by simpa using hv)
    · cases e

theorem dataA_ok {h : Heap} {ids : List Nat} {r : Bool} {x : V} {a : A} (e : dataA r x = some a) : SnapA h ids r x a := by
  unfold dataA at e
  split at e
  · rename_i xs
    cases hc : cellsT r xs with
    | none => simp [hc] at e
    | some ys =>
      simp only [hc, Option.map_some, Option.some.injEq] at e
      subst e
      obtain ⟨g1, g2⟩ := cellsT_ok (h := h) (ids := ids) hc
      exact .agg xs ys g1 g2
  · cases hc : cellT r x with
    | none => simp [hc] at e
    | some y =>
      simp only [hc, Option.map_some, Option.some.injEq] at e
      subst e
      exact .one x y (cellT_ok hc)

theorem dataL_ok {h : Heap} {ids : List Nat} {r : Bool} : ∀ {xs : List V} {as : List A}, dataL r xs = some as → xs.length = as.length ∧ ∀ (i : Nat) (x : V) (a : A), xs[i]? = some x → as[i]? = some a → SnapA h ids r x a
  | [], ys, e => by simp only [dataL, Option.some.injEq] at e; subst e; exact ⟨rfl, by simp⟩
  | x :: xs, ys, e => by
    unfold dataL at e
    split at e
    · rename_i y zs h1 h2
      simp only [Option.some.injEq] at e
      subst e
      obtain ⟨g1, g2⟩ := dataL_ok (h := h) (ids := ids) h2
      refine ⟨by simp [g1], fun i u v hu hv => ?_⟩
      cases i with
      | zero =>
        simp only [List.getElem?_cons_zero, Option.some.injEq] at hu hv
        subst hu; subst hv; exact dataA_ok h1
      | succ i => exact g2 i u v (by simpa using hu) (by simpa using hv)
    · cases e

/-- The last step of a function of data. -/
theorem fin {fn : Func} {res : List A} {x : Ex} {xs : List V} (hr : resL E.P t h fn.results.toList = some xs) (hd : dataL true xs = some res) (hx : x = .norm ∨ x = .ret := by first | exact .inl rfl | exact .inr rfl) : FinOK E fn res x t h n :=
  let g := dataL_ok (h := h) (ids := []) hd; ⟨hx, xs, [], resL_ok hr, g.1, g.2⟩
theorem finE {fn : Func} {res res' : List A} {x : Ex} {xs : List V} (hr : resL E.P t h fn.results.toList = some xs) (hd : dataL true xs = some res') (he : res' = res) (hx : x = .norm ∨ x = .ret := by first | exact .inl rfl | exact .inr rfl) : FinOK E fn res x t h n :=
  he ▸ fin hr hd hx

theorem Pure.of_wp {f : FuncId} {fn : Func} {k : Code} {args res : List A} (hf : E.P.funcs[f]? = some fn) (hb : fn.body = some k) (hn : args.length ≤ fn.ntmps)
    (w : WP E fn.ntmps k (fun i => ((args.map (A.toV false))[i]?).getD .unk) (fun _ => none) 0 (FinOK E fn res)) (hnm : (fn.name != "runtime.NumGoroutine") = true := by rfl) : Pure E f args res := by
  obtain ⟨x, t', h', n', e, hx, xs, ids, h1, h2, h3⟩ := w
  exact Pure.of_exec hf hb hn e hx h1 h2 h3 hnm

end rules

/-! Calls that share their caller's memory. -/

/-- Called with these, from these blocks, it hands v back, and the blocks are then as 'wr' says. -/
def Open (E : Env) (f : FuncId) (args : List V) (h : Heap) (n : Nat) (v : V) (wr : List (Nat × Option Blk)) (n' : Nat) : Prop :=
  (callP E.P f = true ∧ n ≤ n') ∧ ∀ (c : Cx) (vs : Array Value), Good E c h → (∀ id, n ≤ id → c.ρ id = none) → args.length = vs.size → (∀ (i : Nat) (x : V) (u : Value), args[i]? = some x → vs[i]? = some u → VR c x u) →
    Calls E.P f vs c.w fun e w' => ∃ u c', e = .returned u ∧ c'.w = w' ∧ Ext c c' ∧ Good E c' (app wr h) ∧ (∀ id, c'.ρ id ≠ none → c.ρ id ≠ none ∨ (n ≤ id ∧ id < n')) ∧ VR c' v u

theorem Good.less {E : Env} {c : Cx} {h h' : Heap} (hg : Good E c h) (hs : ∀ id b, h' id = some b → h id = some b) : Good E c h' :=
  ⟨fun k x hk => hg.blk k x (hs k x hk), fun k k' x x' r r' h1 h2 => hg.inj k k' x x' r r' (hs _ _ h1) (hs _ _ h2), hg.imm, fun k x r h1 => hg.sep k x r (hs _ _ h1), hg.own, hg.base, hg.glob⟩

def retX : List V → V
  | [x] => x
  | xs => .tup xs

def OpenFin (E : Env) (fn : Func) (v : V) (h : Heap) (n0 : Nat) (wr : List (Nat × Option Blk)) (m : Nat) (x : Ex) (t' : Nat → V) (h' : Heap) (n' : Nat) : Prop :=
  (x = .norm ∨ x = .ret) ∧ (∃ xs : List V, ResL E.P t' h' fn.results.toList xs ∧ retX xs = v) ∧ ((∀ i, n0 ≤ i → h i = none) → ∀ id b, app wr h id = some b → h' id = some b) ∧ n' ≤ m

theorem Open.of_wp {E : Env} {f : FuncId} {fn : Func} {k : Code} {args : List V} {h : Heap} {n m : Nat} {v : V} {wr : List (Nat × Option Blk)} (hf : E.P.funcs[f]? = some fn) (hb : fn.body = some k) (hn : args.length ≤ fn.ntmps)
    (w : WP E fn.ntmps k (fun i => (args[i]?).getD .unk) h n (OpenFin E fn v h n wr m)) (hnm : (fn.name != "runtime.NumGoroutine") = true := by rfl) : Open E f args h n v wr m := by
  obtain ⟨x, t', h', n', e, hx, ⟨xs, h1, rfl⟩, h2, hm⟩ := w
  refine ⟨⟨by simp only [callP, hf, hb, hnm, Option.isSome_some, Bool.and_self], Nat.le_trans e.1 hm⟩, fun c vs hg hfr hal har => ?_⟩
  refine calls_of_wp hf hb ?_
  have hs0 : Slots fn.ntmps (fun i => (args[i]?).getD .unk) c { tmps := vs ++ Array.replicate (fn.ntmps - vs.size) undef, defers := [] } := by
    refine ⟨by simp; omega, fun i => ?_, rfl⟩
    by_cases hi : i < args.length
    · have hiv : i < vs.size := by omega
      have h1 : (vs ++ Array.replicate (fn.ntmps - vs.size) undef).getD i undef = vs[i] := by
        simp [Array.getElem?_append_left hiv, hiv]
      rw [h1]
      have h2 : (args[i]?).getD .unk = args[i] := by simp [hi]
      rw [h2]
      exact har i args[i] vs[i] (by simp [hi]) (by simp [hiv])
    · have h2 : (args[i]?).getD .unk = .unk := by simp [hi]
      rw [h2]; exact .unk _
  refine wp_mono (e.2 c _ hs0 hg hfr) ?_
  rintro ee a' w' ⟨rfl, c', rfl, hxt, hs', hg', hd'⟩
  obtain ⟨us, g1, g2, g3⟩ := results_run hg' hs' h1
  have key : VR c' (retX xs) (if h : us.toArray.size = 1 then us.toArray[0] else .tuple us.toArray) := by
    split
    · rename_i hsz
      have hul : us.length = 1 := by simpa using hsz
      have hxl : xs.length = 1 := by omega
      match xs, us, hxl, hul, g3 with
      | [y], [u], _, _, g3 => exact g3 0 y u rfl rfl
    · rename_i hsz
      have : retX xs = .tup xs := by
        unfold retX
        split
        · simp at g2 hsz; omega
        · rfl
      rw [this]
      exact .tup _ _ (by simp; omega) fun i x v h1 h2 => g3 i x v h1 (by simpa using h2)
  have hpost : ∃ u c2, Ending.returned (if h : us.toArray.size = 1 then us.toArray[0] else .tuple us.toArray) = .returned u ∧ c2.w = c'.w ∧ Ext c c2 ∧ Good E c2 (app wr h) ∧ (∀ id, c2.ρ id ≠ none → c.ρ id ≠ none ∨ (n ≤ id ∧ id < m)) ∧ VR c2 (retX xs) u :=
    ⟨_, c', rfl, rfl, hxt, hg'.less (h2 fun i hi => by
      cases hh : h i with
      | none => rfl
      | some b =>
        obtain ⟨p, hp, _⟩ := hg.blk i b hh
        rw [hfr i hi] at hp; cases hp), fun id hid => (hd' id hid).imp (fun h => h) (fun h => ⟨h.1, by omega⟩), key⟩
  rcases hx with rfl | rfl
  · exact ⟨hs'.defers, _, g1, hpost⟩
  · exact ⟨hs'.defers, _, g1, hpost⟩

theorem finO {E : Env} {fn : Func} {v : V} {h h' : Heap} {n0 : Nat} {wr : List (Nat × Option Blk)} {m n' : Nat} {x : Ex} {t' : Nat → V} {xs : List V} (hr : resL E.P t' h' fn.results.toList = some xs) (hv : retX xs = v)
    (hs : (∀ i, n0 ≤ i → h i = none) → ∀ id b, app wr h id = some b → h' id = some b) (hm : n' ≤ m) (hx : x = .norm ∨ x = .ret := by first | exact .inl rfl | exact .inr rfl) : OpenFin E fn v h n0 wr m x t' h' n' := ⟨hx, ⟨xs, resL_ok hr, hv⟩, hs, hm⟩

theorem op_open {E : Env} {o : Oper} {t : Nat → V} {h : Heap} {n n' : Nat} {fo : Operand} {args : Array Operand} {tys : Array TypeId} {f : FuncId} {caps : List V} {v : V} {wr : List (Nat × Option Blk)}
    (ho : o.op = .call { callee := .value fo, args := args, argTypes := tys }) (hc : E.eval t fo = .clo f caps) (hop : Open E f (args.toList.map (E.eval t) ++ caps) h n v wr n') :
    OpOK E o t h n [] true v wr n' := by
  intro c a h2 K Q hd hx hg hrd htot hf hK
  obtain ⟨rfl, hfree⟩ := htot rfl
  obtain ⟨cs, hrun, hcl, hcr⟩ := run_call ho hc hx hop.1.1
  unfold Oper.wp
  rw [hrun, Oper.upon_enter]
  refine Calls.mono (hop.2 c (args.map a.eval ++ cs) hg hfree (by simp [hcl]) (fun i x u h1 h2 => ?_)) ?_
  · by_cases hi : i < args.size
    · rw [List.getElem?_append_left (by simpa using hi), List.getElem?_map] at h1
      rw [Array.getElem?_append_left (by simpa using hi), Array.getElem?_map] at h2
      cases hx' : args[i]? with
      | none => simp [hx'] at h2
      | some y =>
        have hx2 : args.toList[i]? = some y := by simpa using hx'
        simp only [hx2, Option.map_some, Option.some.injEq] at h1
        simp only [hx', Option.map_some, Option.some.injEq] at h2
        subst h1; subst h2
        exact hx y (by simp [ho, Op.operands, Call.operands]; exact .inr (Array.mem_of_getElem? hx'))
    · rw [List.getElem?_append_right (by simp; omega)] at h1
      rw [Array.getElem?_append_right (by simp; omega)] at h2
      simp only [List.length_map, Array.length_toList] at h1
      simp only [Array.size_map] at h2
      exact hcr _ x u h1 h2
  · rintro e w' ⟨u, c', rfl, rfl, hx2, hg2, hd2, hv⟩
    exact hK c' u hx2 hg2 hd2 hv

theorem Open.le {E : Env} {f : FuncId} {args : List V} {h : Heap} {n : Nat} {v : V} {wr : List (Nat × Option Blk)} {n' : Nat} (ho : Open E f args h n v wr n') : n ≤ n' := ho.1.2
attribute [irreducible] WP WR WD WL Open seqQ blockQ loopQ
end Go.V
