import Derived.WideKeyArr
import Derived.Test.YtknnniaoboaghaaM2
namespace Go.V
open Go.RowKit (Below)
set_option linter.unusedSimpArgs false
set_option linter.unusedVariables false
abbrev Post := Ex → (Nat → V) → Heap → Nat → Prop
def WP (E : Env) (sz : Nat) (k : Code) (t : Nat → V) (h : Heap) (n : Nat) (Q : Post) : Prop := ∃ x t' h' n', Exec E sz k t h n x t' h' n' ∧ Q x t' h' n'
def WR (E : Env) (sz : Nat) (ops : Array Oper) (l : List Oper) (t : Nat → V) (h : Heap) (n : Nat) (Q : (Nat → V) → Heap → Nat → Prop) : Prop := ∃ es t' h' n', Runs E sz ops l t h n es t' h' n' ∧ Q t' h' n'
def WD (E : Env) (sz : Nat) (ops : Array Oper) (bl : List Nat) (pre : List Ef) (l : List Oper) (t : Nat → V) (h : Heap) (n : Nat) (Q : (Nat → V) → Heap → Nat → Prop) : Prop :=
  ∃ es t' h' n', Runs E sz ops l t h n es t' h' n' ∧ ClearL (pre.reverse ++ es) (residE ops.size bl (pre.reverse ++ es)) ∧ Q t' h' n'
def seqQ (E : Env) (sz : Nat) (k : Code) (Q : Post) : Post
  | .norm, t, h, n => WP E sz k t h n Q
  | x, t, h, n => Q x t h n
def blockQ (id : Nat) (Q : Post) : Post
  | .exit i, t, h, n => if i = id then Q .norm t h n else Q (.exit i) t h n
  | x, t, h, n => Q x t h n
def WL (E : Env) (sz : Nat) (k : Code) (t : Nat → V) (h : Heap) (n : Nat) (Q : Post) : Prop := ∃ x t' h' n', Loops E sz k t h n x t' h' n' ∧ Q x t' h' n'
def loopQ (E : Env) (sz : Nat) (k : Code) (Q : Post) : Post
  | .norm, t, h, n => WL E sz k t h n Q
  | x, t, h, n => Q x t h n
section rules
variable {E : Env} {sz : Nat} {t : Nat → V} {h : Heap} {n : Nat} {Q : Post} {ops : Array Oper} {l : List Oper} {o : Oper} {bl : List Nat} {pre : List Ef} {R : (Nat → V) → Heap → Nat → Prop}
theorem WP.mono {k : Code} {Q' : Post} (w : WP E sz k t h n Q) (hq : ∀ x t h n, Q x t h n → Q' x t h n) : WP E sz k t h n Q' :=
  let ⟨x, t', h', n', e, q⟩ := w; ⟨x, t', h', n', e, hq _ _ _ _ q⟩
theorem wSkip (q : Q .norm t h n) : WP E sz .skip t h n Q := ⟨_, _, _, _, Exec.skip, q⟩
theorem wRet (q : Q .ret t h n) : WP E sz .ret t h n Q := ⟨_, _, _, _, Exec.ret, q⟩
theorem wExit {id : Nat} (q : Q (.exit id) t h n) : WP E sz (.exit id) t h n Q := ⟨_, _, _, _, Exec.exit id, q⟩
theorem wSeq {k1 k2 : Code} (w : WP E sz k1 t h n (seqQ E sz k2 Q)) : WP E sz (.seq k1 k2) t h n Q := by
  obtain ⟨x, t', h', n', e, q⟩ := w
  cases x with
  | norm =>
    obtain ⟨x2, t2, h2, n2, e2, q2⟩ := q
    exact ⟨x2, t2, h2, n2, e.seq e2, q2⟩
  | exit id => exact ⟨_, _, _, _, e.seq_out (by simp), q⟩
  | ret => exact ⟨_, _, _, _, e.seq_out (by simp), q⟩
theorem qSeq {k : Code} (w : WP E sz k t h n Q) : seqQ E sz k Q .norm t h n := w
theorem qSeqR {k : Code} (w : Q .ret t h n) : seqQ E sz k Q .ret t h n := w
theorem qSeqX {k : Code} {id : Nat} (w : Q (.exit id) t h n) : seqQ E sz k Q (.exit id) t h n := w
theorem wT {c : Operand} {k1 k2 : Code} (hb : E.eval t c = .bool true) (w : WP E sz k1 t h n Q) : WP E sz (.cond c k1 k2) t h n Q :=
  let ⟨x, t', h', n', e, q⟩ := w; ⟨x, t', h', n', e.cond_t hb, q⟩
theorem wF {c : Operand} {k1 k2 : Code} (hb : E.eval t c = .bool false) (w : WP E sz k2 t h n Q) : WP E sz (.cond c k1 k2) t h n Q :=
  let ⟨x, t', h', n', e, q⟩ := w; ⟨x, t', h', n', e.cond_f hb, q⟩
theorem wBlock {id : Nat} {k : Code} (w : WP E sz k t h n (blockQ id Q)) : WP E sz (.block id k) t h n Q := by
  obtain ⟨x, t', h', n', e, q⟩ := w
  cases x with
  | norm => exact ⟨.norm, _, _, _, e.block rfl, q⟩
  | ret => exact ⟨.ret, _, _, _, e.block rfl, q⟩
  | exit i =>
    by_cases hi : i = id
    · simp only [blockQ, hi, if_true] at q
      exact ⟨.norm, _, _, _, e.block (by simp [Ex.inBlock, hi]), q⟩
    · simp only [blockQ, hi, if_false] at q
      exact ⟨.exit i, _, _, _, e.block (by simp [Ex.inBlock, hi]), q⟩
theorem qBlock {id : Nat} (q : Q .norm t h n) : blockQ id Q .norm t h n := q
theorem qBlockR {id : Nat} (q : Q .ret t h n) : blockQ id Q .ret t h n := q
theorem qBlockX {id : Nat} (q : Q .norm t h n) : blockQ id Q (.exit id) t h n := by simp only [blockQ, if_true]; exact q
theorem wLoop {k : Code} (w : WL E sz k t h n Q) : WP E sz (.loop k) t h n Q :=
  let ⟨x, t', h', n', e, q⟩ := w; ⟨x, t', h', n', Exec.loop e, q⟩
theorem lStep {k : Code} (w : WP E sz k t h n (loopQ E sz k Q)) : WL E sz k t h n Q := by
  obtain ⟨x, t', h', n', e, q⟩ := w
  cases x with
  | norm =>
    obtain ⟨x2, t2, h2, n2, e2, q2⟩ := q
    exact ⟨x2, t2, h2, n2, .more e e2, q2⟩
  | exit id => exact ⟨_, _, _, _, .last e (by simp), q⟩
  | ret => exact ⟨_, _, _, _, .last e (by simp), q⟩
theorem qLoop {k : Code} (w : WL E sz k t h n Q) : loopQ E sz k Q .norm t h n := w
theorem qLoopR {k : Code} (q : Q .ret t h n) : loopQ E sz k Q .ret t h n := q
theorem qLoopX {k : Code} {id : Nat} (q : Q (.exit id) t h n) : loopQ E sz k Q (.exit id) t h n := q
theorem WL.mono {k : Code} {Q' : Post} (w : WL E sz k t h n Q) (hq : ∀ x t h n, Q x t h n → Q' x t h n) : WL E sz k t h n Q' :=
  let ⟨x, t', h', n', e, q⟩ := w; ⟨x, t', h', n', e, hq _ _ _ _ q⟩
theorem wRegion {id : Nat} {l : List Oper} (w : WR E sz l.toArray l t h n (Q .norm)) : WP E sz (.region id l.toArray false) t h n Q := by
  obtain ⟨es, t', h', n', r, q⟩ := w
  exact ⟨_, _, _, _, Exec.region (by simpa using r), q⟩
theorem wDraw {id : Nat} {l : List Oper} (bl : List Nat) (hm : E.P.follows .mixedOrders = true) (hst : statOK l.toArray bl = true) (w : WD E sz l.toArray bl [] l t h n (Q .norm)) : WP E sz (.region id l.toArray true) t h n Q := by
  obtain ⟨es, t', h', n', r, hc, q⟩ := w
  exact ⟨_, _, _, _, Exec.draw bl _ hm hst (by simpa using r) rfl (by simpa using hc), q⟩
theorem rNil (q : R t h n) : WR E sz ops [] t h n R := ⟨_, _, _, _, .nil t h n, q⟩
theorem rOp {rd : List Nat} {tot : Bool} {v : V} {wr : List (Nat × Option Blk)} {n1 : Nat} (hop : OpOK E o t h n rd tot v wr n1) (hd : dstOK sz o.dst = true) (hg : guardV ops t o = some true) (hn : n ≤ n1) (hz : wr = [] → tot = false → n = n1)
    (w : WR E sz ops l (updO t o.dst v) (app wr h) n1 R) : WR E sz ops (o :: l) t h n R := by
  obtain ⟨es, t', h', n', r, q⟩ := w
  exact ⟨_, _, _, _, .op o l t h n rd tot v wr n1 es t' h' n' hd hg hop hn hz r, q⟩
theorem rOpD {d : Nat} {rd : List Nat} {tot : Bool} {v : V} {wr : List (Nat × Option Blk)} {n1 : Nat} (hop : OpOK E o t h n rd tot v wr n1) (hdd : o.dst = some d) (hd : Nat.blt d sz = true) (hg : guardV ops t o = some true) (hn : n ≤ n1) (hz : wr = [] → tot = false → n = n1)
    (w : WR E sz ops l (upd t d v) (app wr h) n1 R) : WR E sz ops (o :: l) t h n R := rOp hop (by rw [hdd]; simpa [dstOK] using hd) hg hn hz (by rw [hdd]; exact w)
theorem r0 {rd : List Nat} {v : V} (hop : OpOK E o t h n rd false v [] n) {d : Nat} (hdd : o.dst = some d) (hd : Nat.blt d sz = true) (hg : guardV ops t o = some true)
    (w : WR E sz ops l (upd t d v) h n R) : WR E sz ops (o :: l) t h n R := rOpD hop hdd hd hg (Nat.le_refl _) (fun _ _ => rfl) w
theorem rSkip {d : Nat} (hdd : o.dst = some d) (hd' : Nat.blt d sz = true) (hg : guardV ops t o = some false) (w : WR E sz ops l (upd t d (.tup [])) h n R) : WR E sz ops (o :: l) t h n R := by
  have hd : dstOK sz o.dst = true := by rw [hdd]; simpa [dstOK] using hd'
  have e : upd t d (.tup []) = updO t o.dst (.tup []) := by rw [hdd]; rfl
  rw [e] at w
  obtain ⟨es, t', h', n', r, q⟩ := w
  exact ⟨_, _, _, _, .skip o l t h n es t' h' n' hd hg r, q⟩
theorem dNil (hc : ClearL pre.reverse (residE ops.size bl pre.reverse)) (q : R t h n) : WD E sz ops bl pre [] t h n R := ⟨[], _, _, _, .nil t h n, by simpa using hc, q⟩
theorem dOp {rd : List Nat} {tot : Bool} {v : V} {wr : List (Nat × Option Blk)} {n1 : Nat} (hop : OpOK E o t h n rd tot v wr n1) (hd : dstOK sz o.dst = true) (hg : guardV ops t o = some true) (hn : n ≤ n1) (hz : wr = [] → tot = false → n = n1)
    (w : WD E sz ops bl (⟨false, v, rd, tot, wr, n, n1⟩ :: pre) l (updO t o.dst v) (app wr h) n1 R) : WD E sz ops bl pre (o :: l) t h n R := by
  obtain ⟨es, t', h', n', r, hc, q⟩ := w
  exact ⟨_, _, _, _, .op o l t h n rd tot v wr n1 es t' h' n' hd hg hop hn hz r, by simpa using hc, q⟩
theorem dOpD {d : Nat} {rd : List Nat} {tot : Bool} {v : V} {wr : List (Nat × Option Blk)} {n1 : Nat} (hop : OpOK E o t h n rd tot v wr n1) (hdd : o.dst = some d) (hd : Nat.blt d sz = true) (hg : guardV ops t o = some true) (hn : n ≤ n1) (hz : wr = [] → tot = false → n = n1)
    (w : WD E sz ops bl (⟨false, v, rd, tot, wr, n, n1⟩ :: pre) l (upd t d v) (app wr h) n1 R) : WD E sz ops bl pre (o :: l) t h n R := dOp hop (by rw [hdd]; simpa [dstOK] using hd) hg hn hz (by rw [hdd]; exact w)
theorem d0 {rd : List Nat} {v : V} (hop : OpOK E o t h n rd false v [] n) {d : Nat} (hdd : o.dst = some d) (hd : Nat.blt d sz = true) (hg : guardV ops t o = some true)
    (w : WD E sz ops bl (⟨false, v, rd, false, [], n, n⟩ :: pre) l (upd t d v) h n R) : WD E sz ops bl pre (o :: l) t h n R := dOpD hop hdd hd hg (Nat.le_refl _) (fun _ _ => rfl) w
theorem dSkip {d : Nat} (hdd : o.dst = some d) (hd' : Nat.blt d sz = true) (hg : guardV ops t o = some false) (w : WD E sz ops bl (⟨true, .tup [], [], false, [], n, n⟩ :: pre) l (upd t d (.tup [])) h n R) : WD E sz ops bl pre (o :: l) t h n R := by
  have hd : dstOK sz o.dst = true := by rw [hdd]; simpa [dstOK] using hd'
  have e : upd t d (.tup []) = updO t o.dst (.tup []) := by rw [hdd]; rfl
  rw [e] at w
  obtain ⟨es, t', h', n', r, hc, q⟩ := w
  exact ⟨_, _, _, _, .skip o l t h n es t' h' n' hd hg r, by simpa using hc, q⟩
theorem OpOK.to {rd : List Nat} {tot : Bool} {v v' : V} {wr : List (Nat × Option Blk)} {n1 : Nat} (hop : OpOK E o t h n rd tot v wr n1) (e : v = v') : OpOK E o t h n rd tot v' wr n1 := e ▸ hop
theorem oMv {x : Operand} {v : V} (ho : o.op = .move x) (hv : E.eval t x = v) : OpOK E o t h n [] false v [] n := (op_move ho).to hv
theorem oAs {x : Operand} {v : V} (ho : o.op = .assign x) (hv : E.eval t x = v) : OpOK E o t h n [] false v [] n := (op_assign ho).to hv
theorem oPk {x y z : Operand} {k : Bool} {v : V} (ho : o.op = .pick x y z) (hc : E.eval t x = .bool k) (hv : pickV k (E.eval t y) (E.eval t z) = v) : OpOK E o t h n [] false v [] n := (op_pick ho hc).to hv
def FinOK (E : Env) (fn : Func) (res : List A) (x : Ex) (t : Nat → V) (h : Heap) (n : Nat) : Prop :=
  (x = .norm ∨ x = .ret) ∧ ∃ (xs : List V) (ids : List Nat), ResL E.P t h fn.results.toList xs ∧ xs.length = res.length ∧ ∀ (i : Nat) (x : V) (a : A), xs[i]? = some x → res[i]? = some a → SnapA h ids true x a
def resV (P : Program) (t : Nat → V) (h : Heap) : ResultVar → Option V
  | .tmp i => some (t i)
  | .cell a ty => match t a with
    | .ptr id i j => match h id with
      | some b => match b.es[i]? with
        | some cs => match rowP P ty with
          | some (true, k) => if j + k ≤ cs.length then some (.agg ((cs.drop j).take k)) else none
          | some (false, _) => cs[j]?
          | none => none
        | none => none
      | none => none
    | _ => none
def resL (P : Program) (t : Nat → V) (h : Heap) : List ResultVar → Option (List V)
  | [] => some []
  | r :: rs => match resV P t h r, resL P t h rs with
    | some x, some xs => some (x :: xs)
    | _, _ => none
theorem resV_ok {P : Program} {t : Nat → V} {h : Heap} {r : ResultVar} {x : V} (e : resV P t h r = some x) : ResV P t h r x := by
  cases r with
  | tmp i => simp only [resV, Option.some.injEq] at e; subst e; exact .tmp i
  | cell a ty =>
    simp only [resV] at e
    split at e
    · rename_i id i j ha
      split at e
      · rename_i b hb
        split at e
        · rename_i cs hi
          split at e
          · rename_i k hr
            split at e
            · rename_i hl
              simp only [Option.some.injEq] at e
              subst e
              exact .row _ _ id i j k b cs ha hb hi hr hl
            · cases e
          · rename_i k hr
            exact .cell _ _ id i j k b cs x ha hb hi hr e
          · cases e
        · cases e
      · cases e
    · cases e
theorem resL_ok {P : Program} {t : Nat → V} {h : Heap} : ∀ {rs : List ResultVar} {xs : List V}, resL P t h rs = some xs → ResL P t h rs xs
  | [], xs, e => by simp only [resL, Option.some.injEq] at e; subst e; exact .nil
  | r :: rs, xs, e => by
    unfold resL at e
    split at e
    · rename_i x ys h1 h2
      simp only [Option.some.injEq] at e
      subst e
      exact .cons r rs x ys (resV_ok h1) (resL_ok h2)
    · cases e
def cellT (r : Bool) : V → Option T
  | .bool b => some (.bool b)
  | .int k n => some (.int k n)
  | .str s => some (.str s)
  | .nilp => some .nilp
  | .nilf => some .nilf
  | .nsl => some .nsl
  | .sl fr nn es => if !r || fr then some (.sl nn es) else none
  | _ => none
def cellsT (r : Bool) : List V → Option (List T)
  | [] => some []
  | x :: xs => match cellT r x, cellsT r xs with
    | some y, some ys => some (y :: ys)
    | _, _ => none
def dataA (r : Bool) : V → Option A
  | .agg xs => (cellsT r xs).map .agg
  | x => (cellT r x).map .one
def dataL (r : Bool) : List V → Option (List A)
  | [] => some []
  | x :: xs => match dataA r x, dataL r xs with
    | some y, some ys => some (y :: ys)
    | _, _ => none
theorem cellT_ok {h : Heap} {ids : List Nat} {r : Bool} {x : V} {y : T} (e : cellT r x = some y) : Snap h ids r x y := by
  unfold cellT at e
  split at e <;> try (simp only [Option.some.injEq] at e; subst e; constructor; done)
  · rename_i fr nn es
    split at e
    · rename_i hc
      simp only [Option.some.injEq] at e; subst e
      refine .sl fr nn es fun hr => ?_
      subst hr
      simp at hc
      exact .inl hc
    · cases e
  · cases e
theorem cellsT_ok {h : Heap} {ids : List Nat} {r : Bool} : ∀ {xs : List V} {ys : List T}, cellsT r xs = some ys → xs.length = ys.length ∧ ∀ (i : Nat) (x : V) (y : T), xs[i]? = some x → ys[i]? = some y → Snap h ids r x y
  | [], ys, e => by simp only [cellsT, Option.some.injEq] at e; subst e; exact ⟨rfl, by simp⟩
  | x :: xs, ys, e => by
    unfold cellsT at e
    split at e
    · rename_i y zs h1 h2
      simp only [Option.some.injEq] at e
      subst e
      obtain ⟨g1, g2⟩ := cellsT_ok (h := h) (ids := ids) h2
      refine ⟨by simp [g1], fun i u v hu hv => ?_⟩
      cases i with
      | zero =>
        simp only [List.getElem?_cons_zero, Option.some.injEq] at hu hv
        subst hu; subst hv; exact cellT_ok h1
      | succ i => exact g2 i u v (by simpa using hu) (by simpa using hv)
    · cases e
theorem dataA_ok {h : Heap} {ids : List Nat} {r : Bool} {x : V} {a : A} (e : dataA r x = some a) : SnapA h ids r x a := by
  unfold dataA at e
  split at e
  · rename_i xs
    cases hc : cellsT r xs with
    | none => simp [hc] at e
    | some ys =>
      simp only [hc, Option.map_some, Option.some.injEq] at e
      subst e
      obtain ⟨g1, g2⟩ := cellsT_ok (h := h) (ids := ids) hc
      exact .agg xs ys g1 g2
  · cases hc : cellT r x with
    | none => simp [hc] at e
    | some y =>
      simp only [hc, Option.map_some, Option.some.injEq] at e
      subst e
      exact .one x y (cellT_ok hc)
theorem dataL_ok {h : Heap} {ids : List Nat} {r : Bool} : ∀ {xs : List V} {az : List A}, dataL r xs = some az → xs.length = az.length ∧ ∀ (i : Nat) (x : V) (a : A), xs[i]? = some x → az[i]? = some a → SnapA h ids r x a
  | [], ys, e => by simp only [dataL, Option.some.injEq] at e; subst e; exact ⟨rfl, by simp⟩
  | x :: xs, ys, e => by
    unfold dataL at e
    split at e
    · rename_i y zs h1 h2
      simp only [Option.some.injEq] at e
      subst e
      obtain ⟨g1, g2⟩ := dataL_ok (h := h) (ids := ids) h2
      refine ⟨by simp [g1], fun i u v hu hv => ?_⟩
      cases i with
      | zero =>
        simp only [List.getElem?_cons_zero, Option.some.injEq] at hu hv
        subst hu; subst hv; exact dataA_ok h1
      | succ i => exact g2 i u v (by simpa using hu) (by simpa using hv)
    · cases e
theorem fin {fn : Func} {res : List A} {x : Ex} {xs : List V} (hr : resL E.P t h fn.results.toList = some xs) (hd : dataL true xs = some res) (hx : x = .norm ∨ x = .ret := by first | exact .inl rfl | exact .inr rfl) : FinOK E fn res x t h n :=
  let g := dataL_ok (h := h) (ids := []) hd; ⟨hx, xs, [], resL_ok hr, g.1, g.2⟩
theorem finE {fn : Func} {res res' : List A} {x : Ex} {xs : List V} (hr : resL E.P t h fn.results.toList = some xs) (hd : dataL true xs = some res') (he : res' = res) (hx : x = .norm ∨ x = .ret := by first | exact .inl rfl | exact .inr rfl) : FinOK E fn res x t h n :=
  he ▸ fin hr hd hx
theorem Pure.of_wp {f : FuncId} {fn : Func} {k : Code} {args res : List A} (hf : E.P.funcs[f]? = some fn) (hb : fn.body = some k) (hn : args.length ≤ fn.ntmps)
    (w : WP E fn.ntmps k (fun i => ((args.map (A.toV false))[i]?).getD .unk) (fun _ => none) 0 (FinOK E fn res)) (hnm : (fn.name != "runtime.NumGoroutine") = true := by rfl) : Pure E f args res := by
  obtain ⟨x, t', h', n', e, hx, xs, ids, h1, h2, h3⟩ := w
  exact Pure.of_exec hf hb hn e hx h1 h2 h3 hnm
end rules
def Open (E : Env) (f : FuncId) (args : List V) (h : Heap) (n : Nat) (v : V) (wr : List (Nat × Option Blk)) (n' : Nat) : Prop :=
  (callP E.P f = true ∧ n ≤ n') ∧ ∀ (c : Cx) (vs : Array Value), Good E c h → (∀ id, n ≤ id → c.ρ id = none) → args.length = vs.size → (∀ (i : Nat) (x : V) (u : Value), args[i]? = some x → vs[i]? = some u → VR c x u) →
    Calls E.P f vs c.w fun e w' => ∃ u c', e = .returned u ∧ c'.w = w' ∧ Ext c c' ∧ Good E c' (app wr h) ∧ (∀ id, c'.ρ id ≠ none → c.ρ id ≠ none ∨ (n ≤ id ∧ id < n')) ∧ VR c' v u
theorem Good.less {E : Env} {c : Cx} {h h' : Heap} (hg : Good E c h) (hs : ∀ id b, h' id = some b → h id = some b) : Good E c h' :=
  ⟨fun k x hk => hg.blk k x (hs k x hk), fun k k' x x' r r' h1 h2 => hg.inj k k' x x' r r' (hs _ _ h1) (hs _ _ h2), hg.imm, fun k x r h1 => hg.sep k x r (hs _ _ h1), hg.own, hg.base, hg.glob⟩
def retX : List V → V
  | [x] => x
  | xs => .tup xs
def OpenFin (E : Env) (fn : Func) (v : V) (h : Heap) (n0 : Nat) (wr : List (Nat × Option Blk)) (m : Nat) (x : Ex) (t' : Nat → V) (h' : Heap) (n' : Nat) : Prop :=
  (x = .norm ∨ x = .ret) ∧ (∃ xs : List V, ResL E.P t' h' fn.results.toList xs ∧ retX xs = v) ∧ ((∀ i, n0 ≤ i → h i = none) → ∀ id b, app wr h id = some b → h' id = some b) ∧ n' ≤ m
theorem Open.of_wp {E : Env} {f : FuncId} {fn : Func} {k : Code} {args : List V} {h : Heap} {n m : Nat} {v : V} {wr : List (Nat × Option Blk)} (hf : E.P.funcs[f]? = some fn) (hb : fn.body = some k) (hn : args.length ≤ fn.ntmps)
    (w : WP E fn.ntmps k (fun i => (args[i]?).getD .unk) h n (OpenFin E fn v h n wr m)) (hnm : (fn.name != "runtime.NumGoroutine") = true := by rfl) : Open E f args h n v wr m := by
  obtain ⟨x, t', h', n', e, hx, ⟨xs, h1, rfl⟩, h2, hm⟩ := w
  refine ⟨⟨by simp only [callP, hf, hb, hnm, Option.isSome_some, Bool.and_self], Nat.le_trans e.1 hm⟩, fun c vs hg hfr hal har => ?_⟩
  refine calls_of_wp hf hb ?_
  have hs0 : Slots fn.ntmps (fun i => (args[i]?).getD .unk) c { tmps := vs ++ Array.replicate (fn.ntmps - vs.size) undef, defers := [] } := by
    refine ⟨by simp; omega, fun i => ?_, rfl⟩
    by_cases hi : i < args.length
    · have hiv : i < vs.size := by omega
      have h1 : (vs ++ Array.replicate (fn.ntmps - vs.size) undef).getD i undef = vs[i] := by
        simp [Array.getElem?_append_left hiv, hiv]
      rw [h1]
      have h2 : (args[i]?).getD .unk = args[i] := by simp [hi]
      rw [h2]
      exact har i args[i] vs[i] (by simp [hi]) (by simp [hiv])
    · have h2 : (args[i]?).getD .unk = .unk := by simp [hi]
      rw [h2]; exact .unk _
  refine wp_mono (e.2 c _ hs0 hg hfr) ?_
  rintro ee a' w' ⟨rfl, c', rfl, hxt, hs', hg', hd'⟩
  obtain ⟨us, g1, g2, g3⟩ := results_run hg' hs' h1
  have key : VR c' (retX xs) (if h : us.toArray.size = 1 then us.toArray[0] else .tuple us.toArray) := by
    split
    · rename_i hsz
      have hul : us.length = 1 := by simpa using hsz
      have hxl : xs.length = 1 := by omega
      match xs, us, hxl, hul, g3 with
      | [y], [u], _, _, g3 => exact g3 0 y u rfl rfl
    · rename_i hsz
      have : retX xs = .tup xs := by
        unfold retX
        split
        · simp at g2 hsz; omega
        · rfl
      rw [this]
      exact .tup _ _ (by simp; omega) fun i x v h1 h2 => g3 i x v h1 (by simpa using h2)
  have hpost : ∃ u c2, Ending.returned (if h : us.toArray.size = 1 then us.toArray[0] else .tuple us.toArray) = .returned u ∧ c2.w = c'.w ∧ Ext c c2 ∧ Good E c2 (app wr h) ∧ (∀ id, c2.ρ id ≠ none → c.ρ id ≠ none ∨ (n ≤ id ∧ id < m)) ∧ VR c2 (retX xs) u :=
    ⟨_, c', rfl, rfl, hxt, hg'.less (h2 fun i hi => by
      cases hh : h i with
      | none => rfl
      | some b =>
        obtain ⟨p, hp, _⟩ := hg.blk i b hh
        rw [hfr i hi] at hp; cases hp), fun id hid => (hd' id hid).imp (fun h => h) (fun h => ⟨h.1, by omega⟩), key⟩
  rcases hx with rfl | rfl
  · exact ⟨hs'.defers, _, g1, hpost⟩
  · exact ⟨hs'.defers, _, g1, hpost⟩
theorem finO {E : Env} {fn : Func} {v : V} {h h' : Heap} {n0 : Nat} {wr : List (Nat × Option Blk)} {m n' : Nat} {x : Ex} {t' : Nat → V} {xs : List V} (hr : resL E.P t' h' fn.results.toList = some xs) (hv : retX xs = v)
    (hs : (∀ i, n0 ≤ i → h i = none) → ∀ id b, app wr h id = some b → h' id = some b) (hm : n' ≤ m) (hx : x = .norm ∨ x = .ret := by first | exact .inl rfl | exact .inr rfl) : OpenFin E fn v h n0 wr m x t' h' n' := ⟨hx, ⟨xs, resL_ok hr, hv⟩, hs, hm⟩
theorem op_open {E : Env} {o : Oper} {t : Nat → V} {h : Heap} {n n' : Nat} {fo : Operand} {args : Array Operand} {tys : Array TypeId} {f : FuncId} {caps : List V} {v : V} {wr : List (Nat × Option Blk)}
    (ho : o.op = .call { callee := .value fo, args := args, argTypes := tys }) (hc : E.eval t fo = .clo f caps) (hop : Open E f (args.toList.map (E.eval t) ++ caps) h n v wr n') :
    OpOK E o t h n [] true v wr n' := by
  intro c a h2 K Q hd hx hg hrd htot hf hK
  obtain ⟨rfl, hfree⟩ := htot rfl
  obtain ⟨cs, hrun, hcl, hcr⟩ := run_call ho hc hx hop.1.1
  unfold Oper.wp
  rw [hrun, Oper.upon_enter]
  refine Calls.mono (hop.2 c (args.map a.eval ++ cs) hg hfree (by simp [hcl]) (fun i x u h1 h2 => ?_)) ?_
  · by_cases hi : i < args.size
    · rw [List.getElem?_append_left (by simpa using hi), List.getElem?_map] at h1
      rw [Array.getElem?_append_left (by simpa using hi), Array.getElem?_map] at h2
      cases hx' : args[i]? with
      | none => simp [hx'] at h2
      | some y =>
        have hx2 : args.toList[i]? = some y := by simpa using hx'
        simp only [hx2, Option.map_some, Option.some.injEq] at h1
        simp only [hx', Option.map_some, Option.some.injEq] at h2
        subst h1; subst h2
        exact hx y (by simp [ho, Op.operands, Call.operands]; exact .inr (Array.mem_of_getElem? hx'))
    · rw [List.getElem?_append_right (by simp; omega)] at h1
      rw [Array.getElem?_append_right (by simp; omega)] at h2
      simp only [List.length_map, Array.length_toList] at h1
      simp only [Array.size_map] at h2
      exact hcr _ x u h1 h2
  · rintro e w' ⟨u, c', rfl, rfl, hx2, hg2, hd2, hv⟩
    exact hK c' u hx2 hg2 hd2 hv
theorem Open.le {E : Env} {f : FuncId} {args : List V} {h : Heap} {n : Nat} {v : V} {wr : List (Nat × Option Blk)} {n' : Nat} (ho : Open E f args h n v wr n') : n ≤ n' := ho.1.2
attribute [irreducible] WP WR WD WL Open seqQ blockQ loopQ
end Go.V
namespace Go.V
open Go.RowKit (Below)
set_option linter.unusedSimpArgs false
set_option linter.unusedVariables false
def arrP (P : Program) (ty : TypeId) : Option (Nat × TypeId × Nat) :=
  match P.underlying ty with
  | some (.array m e) => (P.info? e).map fun i => (m, e, i.size)
  | _ => none
section ops
variable {E : Env} {o : Oper} {t : Nat → V} {h : Heap} {n : Nat}
theorem op_slice_nsl {ty e : TypeId} {x : Operand} {lo hi : Option Operand} {sz : Nat} (ho : o.op = .slice ty x lo hi none) (hx : E.eval t x = .nsl)
    (hs : sliceP E.P ty = some (e, sz)) (hl : bndV E t lo 0 = some 0) (hr : bndV E t hi 0 = some 0) : OpOK E o t h n [] false .unk [] n :=
  OpOK.value fun c a h2' hx' hg hrd => by
    have g1 := hx' x (by simp [ho, Op.operands])
    rw [hx] at g1
    have gl := bnd_val hl (fun y hy => hx' y (by simp [ho, Op.operands, hy]))
    have gr := bnd_val hr (fun y hy => hx' y (by simp [ho, Op.operands, hy]))
    obtain ⟨hu, i, hi', hiz⟩ := sliceP_spec hs
    have hv := g1.nsl_inv
    have hrun := run_bounds (P := E.P) (w := c.w) (len := 0) (cap := 0) (lo := lo.map a.eval) (hi := hi.map a.eval) (l := 0) (r := 0)
      (by rcases gl with ⟨rfl, h⟩ | ⟨y, k, rfl, h⟩
          · exact .inl ⟨rfl, rfl⟩
          · exact .inr ⟨k, by simp [h]⟩)
      (by rcases gr with ⟨rfl, h⟩ | ⟨y, k, rfl, h⟩
          · exact .inl ⟨rfl, rfl⟩
          · exact .inr ⟨k, by simp [h]⟩) (Int.le_refl _) (Int.le_refl _) (Int.le_refl _) (Nat.le_refl _)
    refine ⟨.slice none 0 0, ?_, .unk _⟩
    simp [execOp, ho, hv, Instr.sliceAt, Instr.slice, run_underlying hu, hrun, sizeOf, typeInfo, hi']
theorem op_ext2 {fo x y : Operand} {tys : Array TypeId} {f : FuncId} {p q : ByteArray} {k : IntKind} {r : Int} (hrun : ∀ w, (callFunc f #[.string p, .string q]).run E.P w = .ok (.value (.int k r)) w)
    (ho : o.op = .call { callee := .value fo, args := #[x, y], argTypes := tys }) (hc : E.eval t fo = .clo f []) (hx : E.eval t x = .str p) (hy : E.eval t y = .str q) : OpOK E o t h n [] false (.int k r) [] n :=
  OpOK.value fun c a h2 hx' hg hrd => by
    have g0 := hx' fo (by simp [ho, Op.operands, Call.operands])
    have g1 := (by have := hx' x (by simp [ho, Op.operands, Call.operands]); rw [hx] at this; exact this.str_inv)
    have g2 := (by have := hx' y (by simp [ho, Op.operands, Call.operands]); rw [hy] at this; exact this.str_inv)
    rw [hc] at g0
    refine ⟨.int k r, ?_, .int _ _⟩
    generalize hw : a.eval fo = w at g0
    cases g0 with
    | clo _ _ vs hl hh =>
      have hvs : vs = #[] := Array.eq_empty_of_size_eq_zero (by simpa using hl.symm)
      subst hvs
      simp [execOp, ho, hw, resolve, Deferred.ofValue, invoke, g1, g2, hrun]
def scalV : V → Option Value
  | .bool b => some (.bool b)
  | .int k n => some (.int k n)
  | .str s => some (.string s)
  | _ => none
def scalL : List V → Option (List Value)
  | [] => some []
  | x :: r => match scalV x, scalL r with
    | some v, some vs => some (v :: vs)
    | _, _ => none
def V.val : V → Option Value
  | .agg cs => (scalL cs).map fun vs => .agg vs.toArray
  | x => scalV x
def mapP (P : Program) (ty : TypeId) : Option (TypeId × TypeId) :=
  match P.underlying ty with
  | some (.map k e) => some (k, e)
  | _ => none
def KeyOK (P : Program) (kt : TypeId) (k : V) : Prop := ∃ v l, k.val = some v ∧ keyOf P kt v = some l
def KeysOK (P : Program) (kt : TypeId) (es : List (List V)) : Prop := ∀ (i : Nat) (row : List V), es[i]? = some row → ∃ k x, row = [k, x] ∧ KeyOK P kt k
theorem VR.map_inv {c : Cx} {id : Nat} {v : Value} (h : VR c (.map id) v) : ∃ p, (c.ρ id = some p ∧ p.m = true) ∧ v = .map (some p.b) := by
  cases h with | map _ p hp hm => exact ⟨p, ⟨hp, hm⟩, rfl⟩
def zeroC (P : Program) (ty : TypeId) : Option Value := (P.info? ty).bind (·.zero)
def Cx.setMap (c : Cx) (p : Place) (o : Obj) : Cx := { c with w := { c.w with heap := c.w.heap.setIfInBounds p.b o } }
theorem Good.setMap {c : Cx} {h : Heap} (hg : Good E c h) {id : Nat} {b b' : Blk} {p : Place} {o : Obj} (hb : h id = some b) (hp : c.ρ id = some p) (hm : p.m = true)
    (hM : Ext c (c.setMap p o) → MapAt (c.setMap p o) p b') : Ext c (c.setMap p o) ∧ Good E (c.setMap p o) (upd h id (some b')) := by
  have hlt := (hg.own id p hp).2
  have hne : ∀ k, k ≠ p.b → (c.setMap p o).w.heap[k]? = c.w.heap[k]? := fun k hk => by
    simp [Cx.setMap, Array.getElem?_setIfInBounds_ne (Ne.symm hk)]
  have hsz : (c.setMap p o).w.heap.size = c.w.heap.size := by simp [Cx.setMap]
  have hx : Ext c (c.setMap p o) := by
    refine ⟨rfl, fun _ _ h => h, fun _ h => h, fun k hk => hne k (fun e => hg.sep id b p hb hp (e ▸ hk)), ⟨rfl, rfl, rfl, by rw [hsz]; exact Nat.le_refl _, fun k hk => hne k (fun e => by have := (hg.own id p hp).1; omega)⟩⟩
  refine ⟨hx, fun i x hi => ?_, fun i i' x x' r r' hi hi' hr hr' he => ?_, fun k hk => by rw [hsz]; exact hg.imm k hk, fun i x r hi hr => ?_, fun i r hr => by rw [hsz]; exact hg.own i r hr, by rw [hsz]; exact hg.base, fun g cs hgc => (hg.glob g cs hgc).mono hx⟩
  · by_cases h1 : i = id
    · subst h1
      simp only [upd_same, Option.some.injEq] at hi
      subst hi
      exact ⟨p, hp, (fun h' => absurd (h'.symm.trans hm) (by simp)), fun _ => hM hx⟩
    · rw [upd_ne _ _ h1] at hi
      obtain ⟨r, g1, g2, g3⟩ := hg.blk i x hi
      have hk := hne r.b (fun e => h1 (hg.inj i id x b r p hi hb g1 hp e))
      exact ⟨r, g1, fun hm => (g2 hm).mono hx hk, fun hm => (g3 hm).mono hx hk⟩
  · have key : ∀ i x, (upd h id (some b')) i = some x → ∃ y, h i = some y := by
      intro i x hi
      by_cases h1 : i = id
      · subst h1; exact ⟨_, hb⟩
      · rw [upd_ne _ _ h1] at hi; exact ⟨_, hi⟩
    obtain ⟨y, k1⟩ := key i x hi
    obtain ⟨y', k2⟩ := key i' x' hi'
    exact hg.inj i i' y y' r r' k1 k2 hr hr' he
  · by_cases h1 : i = id
    · subst h1; exact hg.sep i b r hb hr
    · rw [upd_ne _ _ h1] at hi; exact hg.sep i x r hi hr
theorem op_entryStore {ty : TypeId} {x y z : Operand} {id i : Nat} {b : Blk} {k v u : V} (ho : o.op = .entryStore ty x y z) (hx : E.eval t x = .map id) (hy : E.eval t y = .int .i64 i) (hz : E.eval t z = u) (hb : h id = some b) (hi : b.es[i]? = some [k, v]) :
    OpOK E o t h n [id] false .unk [(id, some { b with es := b.es.set i [k, u] })] n := by
  intro c a h2 K2 Q hd hx' hg hrd _ hf hK
  have g1 := hx' x (by simp [ho, Op.operands])
  have g2 := (by have := hx' y (by simp [ho, Op.operands]); rw [hy] at this; exact this.int_inv)
  have g3 := hx' z (by simp [ho, Op.operands])
  rw [hx] at g1; rw [hz] at g3
  obtain ⟨p, ⟨hp, hpm⟩, hv⟩ := g1.map_inv
  have hb2 : h2 id = some b := by rw [hrd id (by simp)]; exact hb
  obtain ⟨es, q1, q2, q3⟩ := hg.map hb2 hp hpm
  obtain ⟨e, k', v', r1, r2, r3, r4, r5⟩ := q3 i _ hi
  simp only [List.cons.injEq, and_true] at r2
  obtain ⟨rfl, rfl⟩ := r2
  have hlt : i < es.size := (Array.getElem?_eq_some_iff.1 r1).1
  have hborn : ∀ (m : Nat) (hm : m < es.size), es[m].born = m := by
    intro m hm
    obtain ⟨e', _, _, u1, _, u3, _⟩ := q3 m b.es[m] (by simp)
    have : es[m] = e' := (Array.getElem?_eq_some_iff.1 u1).2
    rw [this, u3]
  have hidx : es.findIdx? (fun e => (e.born : Int) == (i : Int)) = some i := by
    rw [Array.findIdx?_eq_some_iff_getElem]
    refine ⟨hlt, ?_, fun m hm => ?_⟩
    · simp [hborn i hlt]
    · simp [hborn m (by omega)]; omega
  have hex : (execOp a.eval o).run E.P c.w = .ok .skip (c.setMap p (.map (es.modify i fun e => { e with val := a.eval z }) b.es.length)).w := by
    simp [execOp, ho, hv, g2, Instr.entryStore, MapKept.run_getObj_map q1, asInt, asIntOf, hidx, MapKept.run_setObj_map _ q1, Result.andThen, Cx.setMap]
  unfold Oper.wp
  rw [hex, Oper.upon_skip]
  obtain ⟨s1, s2⟩ := hg.setMap (b' := { b with es := b.es.set i [k, u] }) (o := .map (es.modify i fun e => { e with val := a.eval z }) b.es.length) hb2 hp hpm (fun hxt => by
    refine ⟨_, by simp [Cx.setMap, (hg.own id p hp).2]; rfl, by simp [q2], fun m row hr => ?_⟩
    by_cases hm : m = i
    · subst hm
      simp only [List.getElem?_set_self (by omega : m < b.es.length), Option.some.injEq] at hr
      subst hr
      exact ⟨{ e with val := a.eval z }, k, u, by simp [Array.getElem?_modify, r1], rfl, r3, r4.mono hxt, g3.mono hxt⟩
    · rw [List.getElem?_set_ne (Ne.symm hm)] at hr
      obtain ⟨e', k', x', u1, u2, u3, u4, u5⟩ := q3 m row hr
      exact ⟨e', k', x', by simp [Array.getElem?_modify, Ne.symm hm, u1], u2, u3, u4.mono hxt, u5.mono hxt⟩)
  exact hK _ _ s1 s2 (fun id h => .inl h) (.unk _)
end ops
theorem Pure.of_wpX {E : Env} {f : FuncId} {fn : Func} {k : Code} {args : List A} {α : Type} {p : α → Prop} {R : α → List A} (hf : E.P.funcs[f]? = some fn) (hb : fn.body = some k) (hn : args.length ≤ fn.ntmps)
    (w : WP E fn.ntmps k (fun i => ((args.map (A.toV false))[i]?).getD .unk) (fun _ => none) 0 (fun x t h n => ∃ a, p a ∧ FinOK E fn (R a) x t h n)) (hnm : (fn.name != "runtime.NumGoroutine") = true := by rfl) : ∃ a, p a ∧ Pure E f args (R a) := by
  unfold WP at w
  obtain ⟨x, t', h', n', e, a, hp, hq⟩ := w
  exact ⟨a, hp, Pure.of_wp hf hb hn (by unfold WP; exact ⟨x, t', h', n', e, hq⟩) hnm⟩
theorem Open.of_wpX {E : Env} {f : FuncId} {fn : Func} {k : Code} {args : List V} {h : Heap} {n : Nat} {α : Type} {p : α → Prop} {v : α → V} {wr : α → List (Nat × Option Blk)} {m : α → Nat} (hf : E.P.funcs[f]? = some fn) (hb : fn.body = some k) (hn : args.length ≤ fn.ntmps)
    (w : WP E fn.ntmps k (fun i => (args[i]?).getD .unk) h n (fun x t' h' n' => ∃ a, p a ∧ OpenFin E fn (v a) h n (wr a) (m a) x t' h' n')) (hnm : (fn.name != "runtime.NumGoroutine") = true := by rfl) : ∃ a, p a ∧ Open E f args h n (v a) (wr a) (m a) := by
  unfold WP at w
  obtain ⟨x, t', h', n', e, a, hp, hq⟩ := w
  exact ⟨a, hp, Open.of_wp hf hb hn (by unfold WP; exact ⟨x, t', h', n', e, hq⟩) hnm⟩
end Go.V
namespace Go.V
open Go.RowKit (Below)
set_option linter.unusedSimpArgs false
set_option linter.unusedVariables false
theorem bytes_eq (a b : ByteArray) : (a.toList == b.toList) = decide (a = b) := by
  by_cases h : a = b
  · subst h; simp
  · have : a.toList ≠ b.toList := fun e => h (by
      rw [ByteArray.toList_eq, ByteArray.toList_eq] at e
      obtain ⟨⟨x⟩⟩ := a
      obtain ⟨⟨y⟩⟩ := b
      have e : x = y := e
      rw [e])
    simp [h, this]
theorem op_max {E : Env} {o : Oper} {t : Nat → V} {h : Heap} {n : Nat} {x y : Operand} {tys : Array TypeId} {k : IntKind} {a b : Int} (ho : o.op = .call { callee := .builtin .max, args := #[x, y], argTypes := tys }) (hx : E.eval t x = .int k a) (hy : E.eval t y = .int k b) :
    OpOK E o t h n [] false (.int k (max a b)) [] n := by
  have e : max a b = if a < b then b else a := by split <;> omega
  rw [e]
  exact OpOK.value fun c a' h2 hx' hg hrd => by
    have g1 := (by have := hx' x (by simp [ho, Op.operands, Call.operands]); rw [hx] at this; exact this.int_inv)
    have g2 := (by have := hx' y (by simp [ho, Op.operands, Call.operands]); rw [hy] at this; exact this.int_inv)
    refine ⟨.int k (if a < b then b else a), ?_, .int _ _⟩
    simp [execOp, ho, g1, g2, resolve, invoke, builtin, Builtin.max_, Builtin.max2]
theorem op_min {E : Env} {o : Oper} {t : Nat → V} {h : Heap} {n : Nat} {x y : Operand} {tys : Array TypeId} {k : IntKind} {a b : Int} (ho : o.op = .call { callee := .builtin .min, args := #[x, y], argTypes := tys }) (hx : E.eval t x = .int k a) (hy : E.eval t y = .int k b) :
    OpOK E o t h n [] false (.int k (min a b)) [] n := by
  have e : min a b = if b < a then b else a := by split <;> omega
  rw [e]
  exact OpOK.value fun c a' h2 hx' hg hrd => by
    have g1 := (by have := hx' x (by simp [ho, Op.operands, Call.operands]); rw [hx] at this; exact this.int_inv)
    have g2 := (by have := hx' y (by simp [ho, Op.operands, Call.operands]); rw [hy] at this; exact this.int_inv)
    refine ⟨.int k (if b < a then b else a), ?_, .int _ _⟩
    simp [execOp, ho, g1, g2, resolve, invoke, builtin, Builtin.min_, Builtin.min2]
inductive SnapC (h : Heap) (ids : List Nat) (r : Bool) : List V → List T → Prop
  | nil : SnapC h ids r [] []
  | cons (x : V) (y : T) (xs : List V) (ys : List T) (hs : Snap h ids r x y) (hr : SnapC h ids r xs ys) : SnapC h ids r (x :: xs) (y :: ys)
inductive SnapL (h : Heap) (ids : List Nat) (r : Bool) : List V → List A → Prop
  | nil : SnapL h ids r [] []
  | cons (x : V) (y : A) (xs : List V) (ys : List A) (hs : SnapA h ids r x y) (hr : SnapL h ids r xs ys) : SnapL h ids r (x :: xs) (y :: ys)
theorem SnapC.spec {h : Heap} {ids : List Nat} {r : Bool} {xs : List V} {ys : List T} (s : SnapC h ids r xs ys) : xs.length = ys.length ∧ ∀ (i : Nat) (x : V) (y : T), xs[i]? = some x → ys[i]? = some y → Snap h ids r x y := by
  induction s with
  | nil => exact ⟨rfl, by simp⟩
  | cons x y xs ys hs hr ih =>
    refine ⟨by simp [ih.1], fun i u v hu hv => ?_⟩
    cases i with
    | zero =>
      simp only [List.getElem?_cons_zero, Option.some.injEq] at hu hv
      subst hu; subst hv; exact hs
    | succ i => exact ih.2 i u v (by simpa using hu) (by simpa using hv)
theorem SnapC.agg {h : Heap} {ids : List Nat} {r : Bool} {xs : List V} {ys : List T} (s : SnapC h ids r xs ys) : SnapA h ids r (.agg xs) (.agg ys) := .agg xs ys s.spec.1 s.spec.2
theorem SnapL.spec {h : Heap} {ids : List Nat} {r : Bool} {xs : List V} {ys : List A} (s : SnapL h ids r xs ys) : xs.length = ys.length ∧ ∀ (i : Nat) (x : V) (y : A), xs[i]? = some x → ys[i]? = some y → SnapA h ids r x y := by
  induction s with
  | nil => exact ⟨rfl, by simp⟩
  | cons x y xs ys hs hr ih =>
    refine ⟨by simp [ih.1], fun i u v hu hv => ?_⟩
    cases i with
    | zero =>
      simp only [List.getElem?_cons_zero, Option.some.injEq] at hu hv
      subst hu; subst hv; exact hs
    | succ i => exact ih.2 i u v (by simpa using hu) (by simpa using hv)
theorem snapT {h : Heap} {ids : List Nat} {r fr : Bool} (x : T) (hr : r = true → fr = true) : Snap h ids r (x.toV fr) x := by
  cases x with
  | sl nn es => exact .sl fr nn es fun h => .inl (hr h)
  | _ => constructor
def rowsV (rows : List (List T)) : List (List V) := rows.map (·.map (T.toV true))
theorem rowsV_length (a : List (List T)) : (rowsV a).length = a.length := by simp [rowsV]
theorem snapView {h : Heap} {ids : List Nat} {r : Bool} {id m : Nat} {b : Blk} (rows : List (List T)) (hid : id ∈ ids) (hb : h id = some b) (he : b.es = rowsV rows) (hm : m = rows.length) : Snap h ids r (.view id 0 m) (.sl true rows) := by
  subst hm
  have e : ((b.es.drop 0).take rows.length) = rowsV rows := by
    rw [he, List.drop_zero, List.take_of_length_le]
    rw [rowsV_length]; exact Nat.le_refl _
  refine .view id 0 _ b rows hid hb (by rw [he, rowsV_length]; omega) rfl (fun i x y h1 h2 => ?_) (fun i j x y h1 h2 => ?_)
  · rw [e] at h1
    simp only [rowsV, List.getElem?_map, h2, Option.map_some, Option.some.injEq] at h1
    subst h1; simp
  · rw [e] at h1
    unfold get2 at h1 h2
    cases hr : rows[i]? with
    | none => simp [hr] at h2
    | some row =>
      simp only [rowsV, List.getElem?_map, hr, Option.map_some, Option.bind_some] at h1 h2
      rw [h2] at h1
      simp only [Option.map_some, Option.some.injEq] at h1
      subst h1
      exact snapT y fun _ => rfl
theorem op_callS {E : Env} {t : Nat → V} {h : Heap} {n : Nat} {o : Oper} {z : Operand} {tys : Array TypeId} {f : FuncId} {args : Array Operand} {az rs : List A} {vs : List V} {ids : List Nat} (ho : o.op = .call { callee := .value z, args := args, argTypes := tys }) (hc : E.eval t z = .clo f []) (hv : args.toList.map (E.eval t) = vs) (hs : SnapL h ids false vs az) (hpure : Pure E f az rs) :
    OpOK E o t h n ids false (retV true rs) [] n := by
  have g := hs.spec
  refine op_call (ids := ids) ho hc (by rw [← hv] at g; simpa using g.1) (fun i x a h1 h2 => g.2 i _ a ?_ h2) hpure
  have : args.toList[i]? = some x := by simpa using h1
  rw [← hv, List.getElem?_map, this]; rfl
theorem wrap_fits {a : Int} (h1 : -9223372036854775808 ≤ a) (h2 : a ≤ 9223372036854775807) : IntKind.i64.wrap a = a := by rw [IntKind.wrap_i64]; omega
section rules
variable {E : Env} {sz : Nat} {t : Nat → V} {h : Heap} {n : Nat} {ops : Array Oper} {l : List Oper} {o : Oper} {bl : List Nat} {pre : List Ef} {R : (Nat → V) → Heap → Nat → Prop} {x y z : Operand} {ty ty' : TypeId} {k : IntKind} {a b : Int} {p q : ByteArray} {v : V}
theorem op_st {i j m s : Nat} {B : Blk} {cs ys : List V} {r : Bool} {u : V} (ho : o.op = .store ty x y) (hx : E.eval t x = .ptr i j m) (hy : E.eval t y = u) (hb : h i = some B) (hi : B.es[j]? = some cs) (hr : rowP E.P ty = some (r, s)) (hk : u.known = true) (hkl : u.cells.length = s) (hc : u.cells.all V.cell = true) (hl : m + s ≤ cs.length) (hs : splice cs m u.cells = ys) :
    OpOK E o t h n [i] false .unk [(i, some { B with es := B.es.set j ys })] n := by subst hy; subst hs; exact op_store ho hx hb hi hr hk hkl hc hl
theorem op_callD {tys : Array TypeId} {f : FuncId} {args : Array Operand} {az rs : List A} (ho : o.op = .call { callee := .value z, args := args, argTypes := tys }) (hc : E.eval t z = .clo f []) (hs : dataL false (args.toList.map (E.eval t)) = some az) (hpure : Pure E f az rs) :
    OpOK E o t h n [] false (retV true rs) [] n := by
  have g := dataL_ok (h := h) (ids := []) hs
  refine op_call (ids := []) ho hc (by simpa using g.1) (fun i x a h1 h2 => g.2 i _ a ?_ h2) hpure
  have : args.toList[i]? = some x := by simpa using h1
  rw [List.getElem?_map, this]; rfl
theorem OpOK.case {rd : List Nat} {c : Prop} [Decidable c] (hop : OpOK E o t h n rd false (.bool (decide c)) [] n) : (c → OpOK E o t h n rd false (.bool true) [] n) ∧ (¬ c → OpOK E o t h n rd false (.bool false) [] n) :=
  ⟨fun hc => hop.to (by simp [hc]), fun hc => hop.to (by simp [hc])⟩
theorem OpOK.caseB {rd : List Nat} {c : Bool} (hop : OpOK E o t h n rd false (.bool c) [] n) : (c = true → OpOK E o t h n rd false (.bool true) [] n) ∧ (c = false → OpOK E o t h n rd false (.bool false) [] n) :=
  ⟨fun hc => hop.to (by rw [hc]), fun hc => hop.to (by rw [hc])⟩
theorem rmI (ho : o.op = .move x) (hx : E.eval t x = .int k a) {d : Nat} (hdd : o.dst = some d) (hd : Nat.blt d sz = true) (hg : guardV ops t o = some true) (w : WR E sz ops l (upd t d (.int k a)) h n R) : WR E sz ops (o :: l) t h n R := r0 (oMv ho hx) hdd hd hg w
theorem dmI (ho : o.op = .move x) (hx : E.eval t x = .int k a) {d : Nat} (hdd : o.dst = some d) (hd : Nat.blt d sz = true) (hg : guardV ops t o = some true) (w : WD E sz ops bl (⟨false, .int k a, [], false, [], n, n⟩ :: pre) l (upd t d (.int k a)) h n R) : WD E sz ops bl pre (o :: l) t h n R := d0 (oMv ho hx) hdd hd hg w
theorem rmB {c : Bool} (ho : o.op = .move x) (hx : E.eval t x = .bool c) {d : Nat} (hdd : o.dst = some d) (hd : Nat.blt d sz = true) (hg : guardV ops t o = some true) (w : WR E sz ops l (upd t d (.bool c)) h n R) : WR E sz ops (o :: l) t h n R := r0 (oMv ho hx) hdd hd hg w
theorem dmB {c : Bool} (ho : o.op = .move x) (hx : E.eval t x = .bool c) {d : Nat} (hdd : o.dst = some d) (hd : Nat.blt d sz = true) (hg : guardV ops t o = some true) (w : WD E sz ops bl (⟨false, .bool c, [], false, [], n, n⟩ :: pre) l (upd t d (.bool c)) h n R) : WD E sz ops bl pre (o :: l) t h n R := d0 (oMv ho hx) hdd hd hg w
theorem rmS (ho : o.op = .move x) (hx : E.eval t x = .str p) {d : Nat} (hdd : o.dst = some d) (hd : Nat.blt d sz = true) (hg : guardV ops t o = some true) (w : WR E sz ops l (upd t d (.str p)) h n R) : WR E sz ops (o :: l) t h n R := r0 (oMv ho hx) hdd hd hg w
theorem rmV {i j m : Nat} (ho : o.op = .move x) (hx : E.eval t x = .view i j m) {d : Nat} (hdd : o.dst = some d) (hd : Nat.blt d sz = true) (hg : guardV ops t o = some true) (w : WR E sz ops l (upd t d (.view i j m)) h n R) : WR E sz ops (o :: l) t h n R := r0 (oMv ho hx) hdd hd hg w
theorem dmV {i j m : Nat} (ho : o.op = .move x) (hx : E.eval t x = .view i j m) {d : Nat} (hdd : o.dst = some d) (hd : Nat.blt d sz = true) (hg : guardV ops t o = some true) (w : WD E sz ops bl (⟨false, .view i j m, [], false, [], n, n⟩ :: pre) l (upd t d (.view i j m)) h n R) : WD E sz ops bl pre (o :: l) t h n R := d0 (oMv ho hx) hdd hd hg w
theorem rmP {i j m : Nat} (ho : o.op = .move x) (hx : E.eval t x = .ptr i j m) {d : Nat} (hdd : o.dst = some d) (hd : Nat.blt d sz = true) (hg : guardV ops t o = some true) (w : WR E sz ops l (upd t d (.ptr i j m)) h n R) : WR E sz ops (o :: l) t h n R := r0 (oMv ho hx) hdd hd hg w
theorem dmP {i j m : Nat} (ho : o.op = .move x) (hx : E.eval t x = .ptr i j m) {d : Nat} (hdd : o.dst = some d) (hd : Nat.blt d sz = true) (hg : guardV ops t o = some true) (w : WD E sz ops bl (⟨false, .ptr i j m, [], false, [], n, n⟩ :: pre) l (upd t d (.ptr i j m)) h n R) : WD E sz ops bl pre (o :: l) t h n R := d0 (oMv ho hx) hdd hd hg w
theorem rmL {fr nn : Bool} {es : List (List T)} (ho : o.op = .move x) (hx : E.eval t x = .sl fr nn es) {d : Nat} (hdd : o.dst = some d) (hd : Nat.blt d sz = true) (hg : guardV ops t o = some true) (w : WR E sz ops l (upd t d (.sl fr nn es)) h n R) : WR E sz ops (o :: l) t h n R := r0 (oMv ho hx) hdd hd hg w
theorem dmL {fr nn : Bool} {es : List (List T)} (ho : o.op = .move x) (hx : E.eval t x = .sl fr nn es) {d : Nat} (hdd : o.dst = some d) (hd : Nat.blt d sz = true) (hg : guardV ops t o = some true) (w : WD E sz ops bl (⟨false, .sl fr nn es, [], false, [], n, n⟩ :: pre) l (upd t d (.sl fr nn es)) h n R) : WD E sz ops bl pre (o :: l) t h n R := d0 (oMv ho hx) hdd hd hg w
theorem rmN (ho : o.op = .move x) (hx : E.eval t x = .nsl) {d : Nat} (hdd : o.dst = some d) (hd : Nat.blt d sz = true) (hg : guardV ops t o = some true) (w : WR E sz ops l (upd t d (.nsl)) h n R) : WR E sz ops (o :: l) t h n R := r0 (oMv ho hx) hdd hd hg w
theorem rmC {f : FuncId} {cs : List V} (ho : o.op = .move x) (hx : E.eval t x = .clo f cs) {d : Nat} (hdd : o.dst = some d) (hd : Nat.blt d sz = true) (hg : guardV ops t o = some true) (w : WR E sz ops l (upd t d (.clo f cs)) h n R) : WR E sz ops (o :: l) t h n R := r0 (oMv ho hx) hdd hd hg w
theorem rmT {cs : List V} (ho : o.op = .move x) (hx : E.eval t x = .tup cs) {d : Nat} (hdd : o.dst = some d) (hd : Nat.blt d sz = true) (hg : guardV ops t o = some true) (w : WR E sz ops l (upd t d (.tup cs)) h n R) : WR E sz ops (o :: l) t h n R := r0 (oMv ho hx) hdd hd hg w
theorem dmT {cs : List V} (ho : o.op = .move x) (hx : E.eval t x = .tup cs) {d : Nat} (hdd : o.dst = some d) (hd : Nat.blt d sz = true) (hg : guardV ops t o = some true) (w : WD E sz ops bl (⟨false, .tup cs, [], false, [], n, n⟩ :: pre) l (upd t d (.tup cs)) h n R) : WD E sz ops bl pre (o :: l) t h n R := d0 (oMv ho hx) hdd hd hg w
theorem raI (ho : o.op = .assign x) (hx : E.eval t x = .int k a) {d : Nat} (hdd : o.dst = some d) (hd : Nat.blt d sz = true) (hg : guardV ops t o = some true) (w : WR E sz ops l (upd t d (.int k a)) h n R) : WR E sz ops (o :: l) t h n R := r0 (oAs ho hx) hdd hd hg w
theorem daI (ho : o.op = .assign x) (hx : E.eval t x = .int k a) {d : Nat} (hdd : o.dst = some d) (hd : Nat.blt d sz = true) (hg : guardV ops t o = some true) (w : WD E sz ops bl (⟨false, .int k a, [], false, [], n, n⟩ :: pre) l (upd t d (.int k a)) h n R) : WD E sz ops bl pre (o :: l) t h n R := d0 (oAs ho hx) hdd hd hg w
theorem raB {c : Bool} (ho : o.op = .assign x) (hx : E.eval t x = .bool c) {d : Nat} (hdd : o.dst = some d) (hd : Nat.blt d sz = true) (hg : guardV ops t o = some true) (w : WR E sz ops l (upd t d (.bool c)) h n R) : WR E sz ops (o :: l) t h n R := r0 (oAs ho hx) hdd hd hg w
theorem daB {c : Bool} (ho : o.op = .assign x) (hx : E.eval t x = .bool c) {d : Nat} (hdd : o.dst = some d) (hd : Nat.blt d sz = true) (hg : guardV ops t o = some true) (w : WD E sz ops bl (⟨false, .bool c, [], false, [], n, n⟩ :: pre) l (upd t d (.bool c)) h n R) : WD E sz ops bl pre (o :: l) t h n R := d0 (oAs ho hx) hdd hd hg w
theorem raS (ho : o.op = .assign x) (hx : E.eval t x = .str p) {d : Nat} (hdd : o.dst = some d) (hd : Nat.blt d sz = true) (hg : guardV ops t o = some true) (w : WR E sz ops l (upd t d (.str p)) h n R) : WR E sz ops (o :: l) t h n R := r0 (oAs ho hx) hdd hd hg w
theorem raV {i j m : Nat} (ho : o.op = .assign x) (hx : E.eval t x = .view i j m) {d : Nat} (hdd : o.dst = some d) (hd : Nat.blt d sz = true) (hg : guardV ops t o = some true) (w : WR E sz ops l (upd t d (.view i j m)) h n R) : WR E sz ops (o :: l) t h n R := r0 (oAs ho hx) hdd hd hg w
theorem raP {i j m : Nat} (ho : o.op = .assign x) (hx : E.eval t x = .ptr i j m) {d : Nat} (hdd : o.dst = some d) (hd : Nat.blt d sz = true) (hg : guardV ops t o = some true) (w : WR E sz ops l (upd t d (.ptr i j m)) h n R) : WR E sz ops (o :: l) t h n R := r0 (oAs ho hx) hdd hd hg w
theorem raN (ho : o.op = .assign x) (hx : E.eval t x = .nsl) {d : Nat} (hdd : o.dst = some d) (hd : Nat.blt d sz = true) (hg : guardV ops t o = some true) (w : WR E sz ops l (upd t d (.nsl)) h n R) : WR E sz ops (o :: l) t h n R := r0 (oAs ho hx) hdd hd hg w
theorem rpk {c e : Bool} (ho : o.op = .pick x y z) (hc : E.eval t x = .bool c) (hv : pickV c (E.eval t y) (E.eval t z) = .bool e) {d : Nat} (hdd : o.dst = some d) (hd : Nat.blt d sz = true) (hg : guardV ops t o = some true) (w : WR E sz ops l (upd t d (.bool e)) h n R) : WR E sz ops (o :: l) t h n R := r0 (oPk ho hc hv) hdd hd hg w
theorem dpk {c e : Bool} (ho : o.op = .pick x y z) (hc : E.eval t x = .bool c) (hv : pickV c (E.eval t y) (E.eval t z) = .bool e) {d : Nat} (hdd : o.dst = some d) (hd : Nat.blt d sz = true) (hg : guardV ops t o = some true) (w : WD E sz ops bl (⟨false, .bool e, [], false, [], n, n⟩ :: pre) l (upd t d (.bool e)) h n R) : WD E sz ops bl pre (o :: l) t h n R := d0 (oPk ho hc hv) hdd hd hg w
theorem raddF (ho : o.op = .binOp .add ty x y ty') (hx : E.eval t x = .int .i64 a) (hy : E.eval t y = .int .i64 b) (h1 : -9223372036854775808 ≤ a + b) (h2 : a + b ≤ 9223372036854775807) {d : Nat} (hdd : o.dst = some d) (hd : Nat.blt d sz = true) (hg : guardV ops t o = some true) (w : WR E sz ops l (upd t d (.int .i64 (a + b))) h n R) : WR E sz ops (o :: l) t h n R := r0 ((op_int ho hx hy rfl).to (by rw [wrap_fits h1 h2])) hdd hd hg w
theorem daddF (ho : o.op = .binOp .add ty x y ty') (hx : E.eval t x = .int .i64 a) (hy : E.eval t y = .int .i64 b) (h1 : -9223372036854775808 ≤ a + b) (h2 : a + b ≤ 9223372036854775807) {d : Nat} (hdd : o.dst = some d) (hd : Nat.blt d sz = true) (hg : guardV ops t o = some true) (w : WD E sz ops bl (⟨false, .int .i64 (a + b), [], false, [], n, n⟩ :: pre) l (upd t d (.int .i64 (a + b))) h n R) : WD E sz ops bl pre (o :: l) t h n R := d0 ((op_int ho hx hy rfl).to (by rw [wrap_fits h1 h2])) hdd hd hg w
theorem rsubF (ho : o.op = .binOp .sub ty x y ty') (hx : E.eval t x = .int .i64 a) (hy : E.eval t y = .int .i64 b) (h1 : -9223372036854775808 ≤ a - b) (h2 : a - b ≤ 9223372036854775807) {d : Nat} (hdd : o.dst = some d) (hd : Nat.blt d sz = true) (hg : guardV ops t o = some true) (w : WR E sz ops l (upd t d (.int .i64 (a - b))) h n R) : WR E sz ops (o :: l) t h n R := r0 ((op_int ho hx hy rfl).to (by rw [wrap_fits h1 h2])) hdd hd hg w
theorem dsubF (ho : o.op = .binOp .sub ty x y ty') (hx : E.eval t x = .int .i64 a) (hy : E.eval t y = .int .i64 b) (h1 : -9223372036854775808 ≤ a - b) (h2 : a - b ≤ 9223372036854775807) {d : Nat} (hdd : o.dst = some d) (hd : Nat.blt d sz = true) (hg : guardV ops t o = some true) (w : WD E sz ops bl (⟨false, .int .i64 (a - b), [], false, [], n, n⟩ :: pre) l (upd t d (.int .i64 (a - b))) h n R) : WD E sz ops bl pre (o :: l) t h n R := d0 ((op_int ho hx hy rfl).to (by rw [wrap_fits h1 h2])) hdd hd hg w
theorem rlt (ho : o.op = .binOp .lss ty x y ty') (hx : E.eval t x = .int k a) (hy : E.eval t y = .int k b) {d : Nat} (hdd : o.dst = some d) (hd : Nat.blt d sz = true) (hg : guardV ops t o = some true) (w1 : a < b → WR E sz ops l (upd t d (.bool true)) h n R) (w2 : ¬ (a < b) → WR E sz ops l (upd t d (.bool false)) h n R) : WR E sz ops (o :: l) t h n R := by
  have ho2 := OpOK.case (h := h) (n := n) (c := a < b) (op_int ho hx hy rfl)
  by_cases hc : a < b
  · exact r0 (ho2.1 hc) hdd hd hg (w1 hc)
  · exact r0 (ho2.2 hc) hdd hd hg (w2 hc)
theorem dlt (ho : o.op = .binOp .lss ty x y ty') (hx : E.eval t x = .int k a) (hy : E.eval t y = .int k b) {d : Nat} (hdd : o.dst = some d) (hd : Nat.blt d sz = true) (hg : guardV ops t o = some true) (w1 : a < b → WD E sz ops bl (⟨false, .bool true, [], false, [], n, n⟩ :: pre) l (upd t d (.bool true)) h n R) (w2 : ¬ (a < b) → WD E sz ops bl (⟨false, .bool false, [], false, [], n, n⟩ :: pre) l (upd t d (.bool false)) h n R) : WD E sz ops bl pre (o :: l) t h n R := by
  have ho2 := OpOK.case (h := h) (n := n) (c := a < b) (op_int ho hx hy rfl)
  by_cases hc : a < b
  · exact d0 (ho2.1 hc) hdd hd hg (w1 hc)
  · exact d0 (ho2.2 hc) hdd hd hg (w2 hc)
theorem rle (ho : o.op = .binOp .leq ty x y ty') (hx : E.eval t x = .int k a) (hy : E.eval t y = .int k b) {d : Nat} (hdd : o.dst = some d) (hd : Nat.blt d sz = true) (hg : guardV ops t o = some true) (w1 : a ≤ b → WR E sz ops l (upd t d (.bool true)) h n R) (w2 : ¬ (a ≤ b) → WR E sz ops l (upd t d (.bool false)) h n R) : WR E sz ops (o :: l) t h n R := by
  have ho2 := OpOK.case (h := h) (n := n) (c := a ≤ b) (op_int ho hx hy rfl)
  by_cases hc : a ≤ b
  · exact r0 (ho2.1 hc) hdd hd hg (w1 hc)
  · exact r0 (ho2.2 hc) hdd hd hg (w2 hc)
theorem dle (ho : o.op = .binOp .leq ty x y ty') (hx : E.eval t x = .int k a) (hy : E.eval t y = .int k b) {d : Nat} (hdd : o.dst = some d) (hd : Nat.blt d sz = true) (hg : guardV ops t o = some true) (w1 : a ≤ b → WD E sz ops bl (⟨false, .bool true, [], false, [], n, n⟩ :: pre) l (upd t d (.bool true)) h n R) (w2 : ¬ (a ≤ b) → WD E sz ops bl (⟨false, .bool false, [], false, [], n, n⟩ :: pre) l (upd t d (.bool false)) h n R) : WD E sz ops bl pre (o :: l) t h n R := by
  have ho2 := OpOK.case (h := h) (n := n) (c := a ≤ b) (op_int ho hx hy rfl)
  by_cases hc : a ≤ b
  · exact d0 (ho2.1 hc) hdd hd hg (w1 hc)
  · exact d0 (ho2.2 hc) hdd hd hg (w2 hc)
theorem rgt (ho : o.op = .binOp .gtr ty x y ty') (hx : E.eval t x = .int k a) (hy : E.eval t y = .int k b) {d : Nat} (hdd : o.dst = some d) (hd : Nat.blt d sz = true) (hg : guardV ops t o = some true) (w1 : a > b → WR E sz ops l (upd t d (.bool true)) h n R) (w2 : ¬ (a > b) → WR E sz ops l (upd t d (.bool false)) h n R) : WR E sz ops (o :: l) t h n R := by
  have ho2 := OpOK.case (h := h) (n := n) (c := a > b) (op_int ho hx hy rfl)
  by_cases hc : a > b
  · exact r0 (ho2.1 hc) hdd hd hg (w1 hc)
  · exact r0 (ho2.2 hc) hdd hd hg (w2 hc)
theorem dgt (ho : o.op = .binOp .gtr ty x y ty') (hx : E.eval t x = .int k a) (hy : E.eval t y = .int k b) {d : Nat} (hdd : o.dst = some d) (hd : Nat.blt d sz = true) (hg : guardV ops t o = some true) (w1 : a > b → WD E sz ops bl (⟨false, .bool true, [], false, [], n, n⟩ :: pre) l (upd t d (.bool true)) h n R) (w2 : ¬ (a > b) → WD E sz ops bl (⟨false, .bool false, [], false, [], n, n⟩ :: pre) l (upd t d (.bool false)) h n R) : WD E sz ops bl pre (o :: l) t h n R := by
  have ho2 := OpOK.case (h := h) (n := n) (c := a > b) (op_int ho hx hy rfl)
  by_cases hc : a > b
  · exact d0 (ho2.1 hc) hdd hd hg (w1 hc)
  · exact d0 (ho2.2 hc) hdd hd hg (w2 hc)
theorem rge (ho : o.op = .binOp .geq ty x y ty') (hx : E.eval t x = .int k a) (hy : E.eval t y = .int k b) {d : Nat} (hdd : o.dst = some d) (hd : Nat.blt d sz = true) (hg : guardV ops t o = some true) (w1 : a ≥ b → WR E sz ops l (upd t d (.bool true)) h n R) (w2 : ¬ (a ≥ b) → WR E sz ops l (upd t d (.bool false)) h n R) : WR E sz ops (o :: l) t h n R := by
  have ho2 := OpOK.case (h := h) (n := n) (c := a ≥ b) (op_int ho hx hy rfl)
  by_cases hc : a ≥ b
  · exact r0 (ho2.1 hc) hdd hd hg (w1 hc)
  · exact r0 (ho2.2 hc) hdd hd hg (w2 hc)
theorem dge (ho : o.op = .binOp .geq ty x y ty') (hx : E.eval t x = .int k a) (hy : E.eval t y = .int k b) {d : Nat} (hdd : o.dst = some d) (hd : Nat.blt d sz = true) (hg : guardV ops t o = some true) (w1 : a ≥ b → WD E sz ops bl (⟨false, .bool true, [], false, [], n, n⟩ :: pre) l (upd t d (.bool true)) h n R) (w2 : ¬ (a ≥ b) → WD E sz ops bl (⟨false, .bool false, [], false, [], n, n⟩ :: pre) l (upd t d (.bool false)) h n R) : WD E sz ops bl pre (o :: l) t h n R := by
  have ho2 := OpOK.case (h := h) (n := n) (c := a ≥ b) (op_int ho hx hy rfl)
  by_cases hc : a ≥ b
  · exact d0 (ho2.1 hc) hdd hd hg (w1 hc)
  · exact d0 (ho2.2 hc) hdd hd hg (w2 hc)
theorem req (ho : o.op = .binOp .eql ty x y ty') (hx : E.eval t x = .int k a) (hy : E.eval t y = .int k b) {d : Nat} (hdd : o.dst = some d) (hd : Nat.blt d sz = true) (hg : guardV ops t o = some true) (w1 : a = b → WR E sz ops l (upd t d (.bool true)) h n R) (w2 : ¬ (a = b) → WR E sz ops l (upd t d (.bool false)) h n R) : WR E sz ops (o :: l) t h n R := by
  have ho2 := OpOK.case (h := h) (n := n) (c := a = b) ((op_int ho hx hy rfl).to (by by_cases e : a = b <;> simp [e]))
  by_cases hc : a = b
  · exact r0 (ho2.1 hc) hdd hd hg (w1 hc)
  · exact r0 (ho2.2 hc) hdd hd hg (w2 hc)
theorem deq (ho : o.op = .binOp .eql ty x y ty') (hx : E.eval t x = .int k a) (hy : E.eval t y = .int k b) {d : Nat} (hdd : o.dst = some d) (hd : Nat.blt d sz = true) (hg : guardV ops t o = some true) (w1 : a = b → WD E sz ops bl (⟨false, .bool true, [], false, [], n, n⟩ :: pre) l (upd t d (.bool true)) h n R) (w2 : ¬ (a = b) → WD E sz ops bl (⟨false, .bool false, [], false, [], n, n⟩ :: pre) l (upd t d (.bool false)) h n R) : WD E sz ops bl pre (o :: l) t h n R := by
  have ho2 := OpOK.case (h := h) (n := n) (c := a = b) ((op_int ho hx hy rfl).to (by by_cases e : a = b <;> simp [e]))
  by_cases hc : a = b
  · exact d0 (ho2.1 hc) hdd hd hg (w1 hc)
  · exact d0 (ho2.2 hc) hdd hd hg (w2 hc)
theorem rne (ho : o.op = .binOp .neq ty x y ty') (hx : E.eval t x = .int k a) (hy : E.eval t y = .int k b) {d : Nat} (hdd : o.dst = some d) (hd : Nat.blt d sz = true) (hg : guardV ops t o = some true) (w1 : a ≠ b → WR E sz ops l (upd t d (.bool true)) h n R) (w2 : ¬ (a ≠ b) → WR E sz ops l (upd t d (.bool false)) h n R) : WR E sz ops (o :: l) t h n R := by
  have ho2 := OpOK.case (h := h) (n := n) (c := a ≠ b) ((op_int ho hx hy rfl).to (by by_cases e : a = b <;> simp [e]))
  by_cases hc : a ≠ b
  · exact r0 (ho2.1 hc) hdd hd hg (w1 hc)
  · exact r0 (ho2.2 hc) hdd hd hg (w2 hc)
theorem dne (ho : o.op = .binOp .neq ty x y ty') (hx : E.eval t x = .int k a) (hy : E.eval t y = .int k b) {d : Nat} (hdd : o.dst = some d) (hd : Nat.blt d sz = true) (hg : guardV ops t o = some true) (w1 : a ≠ b → WD E sz ops bl (⟨false, .bool true, [], false, [], n, n⟩ :: pre) l (upd t d (.bool true)) h n R) (w2 : ¬ (a ≠ b) → WD E sz ops bl (⟨false, .bool false, [], false, [], n, n⟩ :: pre) l (upd t d (.bool false)) h n R) : WD E sz ops bl pre (o :: l) t h n R := by
  have ho2 := OpOK.case (h := h) (n := n) (c := a ≠ b) ((op_int ho hx hy rfl).to (by by_cases e : a = b <;> simp [e]))
  by_cases hc : a ≠ b
  · exact d0 (ho2.1 hc) hdd hd hg (w1 hc)
  · exact d0 (ho2.2 hc) hdd hd hg (w2 hc)
theorem rseq (ho : o.op = .binOp .eql ty x y ty') (hx : E.eval t x = .str p) (hy : E.eval t y = .str q) {d : Nat} (hdd : o.dst = some d) (hd : Nat.blt d sz = true) (hg : guardV ops t o = some true) (w1 : p = q → WR E sz ops l (upd t d (.bool true)) h n R) (w2 : ¬ (p = q) → WR E sz ops l (upd t d (.bool false)) h n R) : WR E sz ops (o :: l) t h n R := by
  have ho2 := OpOK.case (h := h) (n := n) (c := p = q) ((op_str ho hx hy rfl).to (by rw [bytes_eq]))
  by_cases hc : p = q
  · exact r0 (ho2.1 hc) hdd hd hg (w1 hc)
  · exact r0 (ho2.2 hc) hdd hd hg (w2 hc)
theorem rsne (ho : o.op = .binOp .neq ty x y ty') (hx : E.eval t x = .str p) (hy : E.eval t y = .str q) {d : Nat} (hdd : o.dst = some d) (hd : Nat.blt d sz = true) (hg : guardV ops t o = some true) (w1 : p ≠ q → WR E sz ops l (upd t d (.bool true)) h n R) (w2 : ¬ (p ≠ q) → WR E sz ops l (upd t d (.bool false)) h n R) : WR E sz ops (o :: l) t h n R := by
  have ho2 := OpOK.case (h := h) (n := n) (c := p ≠ q) ((op_str ho hx hy rfl).to (by rw [bytes_eq]; by_cases e : p = q <;> simp [e]))
  by_cases hc : p ≠ q
  · exact r0 (ho2.1 hc) hdd hd hg (w1 hc)
  · exact r0 (ho2.2 hc) hdd hd hg (w2 hc)
theorem dsne (ho : o.op = .binOp .neq ty x y ty') (hx : E.eval t x = .str p) (hy : E.eval t y = .str q) {d : Nat} (hdd : o.dst = some d) (hd : Nat.blt d sz = true) (hg : guardV ops t o = some true) (w1 : p ≠ q → WD E sz ops bl (⟨false, .bool true, [], false, [], n, n⟩ :: pre) l (upd t d (.bool true)) h n R) (w2 : ¬ (p ≠ q) → WD E sz ops bl (⟨false, .bool false, [], false, [], n, n⟩ :: pre) l (upd t d (.bool false)) h n R) : WD E sz ops bl pre (o :: l) t h n R := by
  have ho2 := OpOK.case (h := h) (n := n) (c := p ≠ q) ((op_str ho hx hy rfl).to (by rw [bytes_eq]; by_cases e : p = q <;> simp [e]))
  by_cases hc : p ≠ q
  · exact d0 (ho2.1 hc) hdd hd hg (w1 hc)
  · exact d0 (ho2.2 hc) hdd hd hg (w2 hc)
theorem dslt (ho : o.op = .binOp .lss ty x y ty') (hx : E.eval t x = .str p) (hy : E.eval t y = .str q) {d : Nat} (hdd : o.dst = some d) (hd : Nat.blt d sz = true) (hg : guardV ops t o = some true) (w1 : (Op.bytesLess p.toList q.toList) = true → WD E sz ops bl (⟨false, .bool true, [], false, [], n, n⟩ :: pre) l (upd t d (.bool true)) h n R) (w2 : (Op.bytesLess p.toList q.toList) = false → WD E sz ops bl (⟨false, .bool false, [], false, [], n, n⟩ :: pre) l (upd t d (.bool false)) h n R) : WD E sz ops bl pre (o :: l) t h n R := by
  have ho2 := OpOK.caseB (h := h) (n := n) (c := (Op.bytesLess p.toList q.toList)) (op_str ho hx hy rfl)
  cases hc : (Op.bytesLess p.toList q.toList)
  · exact d0 (ho2.2 hc) hdd hd hg (w2 hc)
  · exact d0 (ho2.1 hc) hdd hd hg (w1 hc)
theorem dsge (ho : o.op = .binOp .geq ty x y ty') (hx : E.eval t x = .str p) (hy : E.eval t y = .str q) {d : Nat} (hdd : o.dst = some d) (hd : Nat.blt d sz = true) (hg : guardV ops t o = some true) (w1 : (!Op.bytesLess p.toList q.toList) = true → WD E sz ops bl (⟨false, .bool true, [], false, [], n, n⟩ :: pre) l (upd t d (.bool true)) h n R) (w2 : (!Op.bytesLess p.toList q.toList) = false → WD E sz ops bl (⟨false, .bool false, [], false, [], n, n⟩ :: pre) l (upd t d (.bool false)) h n R) : WD E sz ops bl pre (o :: l) t h n R := by
  have ho2 := OpOK.caseB (h := h) (n := n) (c := (!Op.bytesLess p.toList q.toList)) (op_str ho hx hy rfl)
  cases hc : (!Op.bytesLess p.toList q.toList)
  · exact d0 (ho2.2 hc) hdd hd hg (w2 hc)
  · exact d0 (ho2.1 hc) hdd hd hg (w1 hc)
theorem rcat (ho : o.op = .binOp .add ty x y ty') (hx : E.eval t x = .str p) (hy : E.eval t y = .str q) (hs : p.size + q.size ≤ 9223372036854775807) {d : Nat} (hdd : o.dst = some d) (hd : Nat.blt d sz = true) (hg : guardV ops t o = some true) (w : WR E sz ops l (upd t d (.str (p ++ q))) h n R) : WR E sz ops (o :: l) t h n R := r0 (op_cat ho hx hy hs) hdd hd hg w
theorem rnot {c : Bool} (ho : o.op = .unOp .not ty x) (hx : E.eval t x = .bool c) {d : Nat} (hdd : o.dst = some d) (hd : Nat.blt d sz = true) (hg : guardV ops t o = some true) (w : WR E sz ops l (upd t d (.bool (!c))) h n R) : WR E sz ops (o :: l) t h n R := r0 (op_not ho hx) hdd hd hg w
theorem dnot {c : Bool} (ho : o.op = .unOp .not ty x) (hx : E.eval t x = .bool c) {d : Nat} (hdd : o.dst = some d) (hd : Nat.blt d sz = true) (hg : guardV ops t o = some true) (w : WD E sz ops bl (⟨false, .bool (!c), [], false, [], n, n⟩ :: pre) l (upd t d (.bool (!c))) h n R) : WD E sz ops bl pre (o :: l) t h n R := d0 (op_not ho hx) hdd hd hg w
theorem rbeq {c e : Bool} (ho : o.op = .binOp .eql ty x y ty') (hu : E.P.underlying ty = some .bool) (hx : E.eval t x = .bool c) (hy : E.eval t y = .bool e) {d : Nat} (hdd : o.dst = some d) (hd : Nat.blt d sz = true) (hg : guardV ops t o = some true) (w : WR E sz ops l (upd t d (.bool (c == e))) h n R) : WR E sz ops (o :: l) t h n R := r0 ((op_beq ho (by simp) hu hx hy).to (by simp)) hdd hd hg w
theorem rquo (ho : o.op = .binOp .quo ty x y ty') (hx : E.eval t x = .int k a) (hy : E.eval t y = .int k b) (hb : b ≠ 0) {d : Nat} (hdd : o.dst = some d) (hd : Nat.blt d sz = true) (hg : guardV ops t o = some true) (w : WR E sz ops l (upd t d (.int k (k.wrap (a.tdiv b)))) h n R) : WR E sz ops (o :: l) t h n R := r0 (op_quo ho hx hy hb) hdd hd hg w
theorem rrem (ho : o.op = .binOp .rem ty x y ty') (hx : E.eval t x = .int k a) (hy : E.eval t y = .int k b) (hb : b ≠ 0) {d : Nat} (hdd : o.dst = some d) (hd : Nat.blt d sz = true) (hg : guardV ops t o = some true) (w : WR E sz ops l (upd t d (.int k (a.tmod b))) h n R) : WR E sz ops (o :: l) t h n R := r0 (op_rem ho hx hy hb) hdd hd hg w
theorem rshr {k' : IntKind} (ho : o.op = .binOp .shr ty x y ty') (hx : E.eval t x = .int k a) (hy : E.eval t y = .int k' b) (hb : 0 ≤ b) {d : Nat} (hdd : o.dst = some d) (hd : Nat.blt d sz = true) (hg : guardV ops t o = some true) (w : WR E sz ops l (upd t d (.int k (a.fdiv (2 ^ (min b.toNat k.bits))))) h n R) : WR E sz ops (o :: l) t h n R := r0 (op_shr ho hx hy hb) hdd hd hg w
theorem rcv {k' : IntKind} (ho : o.op = .convert ty ty' x) (hx : E.eval t x = .int k a) (hs : (E.P.underlying ty).isSome = true) (hu : E.P.underlying ty' = some (.int k')) {d : Nat} (hdd : o.dst = some d) (hd : Nat.blt d sz = true) (hg : guardV ops t o = some true) (w : WR E sz ops l (upd t d (.int k' (k'.wrap a))) h n R) : WR E sz ops (o :: l) t h n R := r0 (op_conv ho hx hs hu) hdd hd hg w
theorem rnc (ho : o.op = .nilCheck x) (hx : E.eval t x = v) (hn : v.nonnil = true) {d : Nat} (hdd : o.dst = some d) (hd : Nat.blt d sz = true) (hg : guardV ops t o = some true) (w : WR E sz ops l (upd t d (v)) h n R) : WR E sz ops (o :: l) t h n R := r0 ((op_nilCheck ho (by rw [hx]; exact hn)).to hx) hdd hd hg w
theorem dnc (ho : o.op = .nilCheck x) (hx : E.eval t x = v) (hn : v.nonnil = true) {d : Nat} (hdd : o.dst = some d) (hd : Nat.blt d sz = true) (hg : guardV ops t o = some true) (w : WD E sz ops bl (⟨false, v, [], false, [], n, n⟩ :: pre) l (upd t d (v)) h n R) : WD E sz ops bl pre (o :: l) t h n R := d0 ((op_nilCheck ho (by rw [hx]; exact hn)).to hx) hdd hd hg w
theorem rex {i : Nat} {vs : List V} (ho : o.op = .extract x i) (hx : E.eval t x = .tup vs) (hi : vs[i]? = some v) {d : Nat} (hdd : o.dst = some d) (hd : Nat.blt d sz = true) (hg : guardV ops t o = some true) (w : WR E sz ops l (upd t d (v)) h n R) : WR E sz ops (o :: l) t h n R := r0 (op_extract ho hx hi) hdd hd hg w
theorem dex {i : Nat} {vs : List V} (ho : o.op = .extract x i) (hx : E.eval t x = .tup vs) (hi : vs[i]? = some v) {d : Nat} (hdd : o.dst = some d) (hd : Nat.blt d sz = true) (hg : guardV ops t o = some true) (w : WD E sz ops bl (⟨false, v, [], false, [], n, n⟩ :: pre) l (upd t d (v)) h n R) : WD E sz ops bl pre (o :: l) t h n R := d0 (op_extract ho hx hi) hdd hd hg w
theorem rmf {f : FuncId} {caps : Array Operand} {vs : List V} (ho : o.op = .makeFunc (.func f) #[] caps) (hv : caps.toList.map (E.eval t) = vs) {d : Nat} (hdd : o.dst = some d) (hd : Nat.blt d sz = true) (hg : guardV ops t o = some true) (w : WR E sz ops l (upd t d (.clo f vs)) h n R) : WR E sz ops (o :: l) t h n R := r0 ((op_makeFunc ho).to (by rw [hv])) hdd hd hg w
theorem rls (ho : o.op = .call { callee := .builtin .len, args := #[x], argTypes := #[ty] }) (hx : E.eval t x = .str p) (hu : E.P.underlying ty = some .string) {d : Nat} (hdd : o.dst = some d) (hd : Nat.blt d sz = true) (hg : guardV ops t o = some true) (w : WR E sz ops l (upd t d (.int .i64 p.size)) h n R) : WR E sz ops (o :: l) t h n R := r0 (op_len_str ho hx hu) hdd hd hg w
theorem rll {m : Nat} (ho : o.op = .call { callee := .builtin .len, args := #[x], argTypes := #[ty] }) (hu : E.P.underlying ty = some (.slice ty')) (hx : lenV (E.eval t x) = some m) {d : Nat} (hdd : o.dst = some d) (hd : Nat.blt d sz = true) (hg : guardV ops t o = some true) (w : WR E sz ops l (upd t d (.int .i64 m)) h n R) : WR E sz ops (o :: l) t h n R := r0 (op_len_sl ho hx hu) hdd hd hg w
theorem dll {m : Nat} (ho : o.op = .call { callee := .builtin .len, args := #[x], argTypes := #[ty] }) (hu : E.P.underlying ty = some (.slice ty')) (hx : lenV (E.eval t x) = some m) {d : Nat} (hdd : o.dst = some d) (hd : Nat.blt d sz = true) (hg : guardV ops t o = some true) (w : WD E sz ops bl (⟨false, .int .i64 m, [], false, [], n, n⟩ :: pre) l (upd t d (.int .i64 m)) h n R) : WD E sz ops bl pre (o :: l) t h n R := d0 (op_len_sl ho hx hu) hdd hd hg w
theorem rixsK {i : Nat} (ho : o.op = .index ty x y) (hx : E.eval t x = .str p) (hy : E.eval t y = .int k a) (hu : E.P.underlying ty = some .string) (h0 : 0 ≤ a) (h1 : a < p.size) (hi : a.toNat = i) {d : Nat} (hdd : o.dst = some d) (hd : Nat.blt d sz = true) (hg : guardV ops t o = some true) (w : WR E sz ops l (upd t d (.int .u8 (bt p i))) h n R) : WR E sz ops (o :: l) t h n R := r0 ((op_index_str ho hx hy hu h0 h1).to (by rw [hi])) hdd hd hg w
theorem rixs (ho : o.op = .index ty x y) (hx : E.eval t x = .str p) (hy : E.eval t y = .int k a) (hu : E.P.underlying ty = some .string) (h0 : 0 ≤ a) (h1 : a < p.size) {d : Nat} (hdd : o.dst = some d) (hd : Nat.blt d sz = true) (hg : guardV ops t o = some true) (w : WR E sz ops l (upd t d (.int .u8 (bt p a.toNat))) h n R) : WR E sz ops (o :: l) t h n R := r0 (op_index_str ho hx hy hu h0 h1) hdd hd hg w
theorem rfa {f off s i j m : Nat} {r : Bool} (ho : o.op = .fieldAddr ty x f) (hx : E.eval t x = .ptr i j m) (hf : fieldP E.P ty f = some (off, s, r)) (hk : s ≠ 0) {d : Nat} (hdd : o.dst = some d) (hd : Nat.blt d sz = true) (hg : guardV ops t o = some true) (w : WR E sz ops l (upd t d (.ptr i j (m + off))) h n R) : WR E sz ops (o :: l) t h n R := r0 (op_fieldAddr ho hx hf hk) hdd hd hg w
theorem dfa {f off s i j m : Nat} {r : Bool} (ho : o.op = .fieldAddr ty x f) (hx : E.eval t x = .ptr i j m) (hf : fieldP E.P ty f = some (off, s, r)) (hk : s ≠ 0) {d : Nat} (hdd : o.dst = some d) (hd : Nat.blt d sz = true) (hg : guardV ops t o = some true) (w : WD E sz ops bl (⟨false, .ptr i j (m + off), [], false, [], n, n⟩ :: pre) l (upd t d (.ptr i j (m + off))) h n R) : WD E sz ops bl pre (o :: l) t h n R := d0 (op_fieldAddr ho hx hf hk) hdd hd hg w
theorem rfai {f off s : Nat} {fr r : Bool} {cs cs' : List T} (ho : o.op = .fieldAddr ty x f) (hx : E.eval t x = .iptr fr cs) (hf : fieldP E.P ty f = some (off, s, r)) (hk : s ≠ 0) (hv : cs.drop off = cs') {d : Nat} (hdd : o.dst = some d) (hd : Nat.blt d sz = true) (hg : guardV ops t o = some true) (w : WR E sz ops l (upd t d (.iptr fr cs')) h n R) : WR E sz ops (o :: l) t h n R := r0 ((op_fieldAddr_i ho hx hf hk).to (by rw [hv])) hdd hd hg w
theorem dfai {f off s : Nat} {fr r : Bool} {cs cs' : List T} (ho : o.op = .fieldAddr ty x f) (hx : E.eval t x = .iptr fr cs) (hf : fieldP E.P ty f = some (off, s, r)) (hk : s ≠ 0) (hv : cs.drop off = cs') {d : Nat} (hdd : o.dst = some d) (hd : Nat.blt d sz = true) (hg : guardV ops t o = some true) (w : WD E sz ops bl (⟨false, .iptr fr cs', [], false, [], n, n⟩ :: pre) l (upd t d (.iptr fr cs')) h n R) : WD E sz ops bl pre (o :: l) t h n R := d0 ((op_fieldAddr_i ho hx hf hk).to (by rw [hv])) hdd hd hg w
theorem rbd {ps : Array (Nat × Operand)} {cs : List V} (ho : o.op = .build ty ps) (hb : buildV E t ty ps = some cs) {d : Nat} (hdd : o.dst = some d) (hd : Nat.blt d sz = true) (hg : guardV ops t o = some true) (w : WR E sz ops l (upd t d (.agg cs)) h n R) : WR E sz ops (o :: l) t h n R := r0 (op_build ho hb) hdd hd hg w
theorem dbd {ps : Array (Nat × Operand)} {cs : List V} (ho : o.op = .build ty ps) (hb : buildV E t ty ps = some cs) {d : Nat} (hdd : o.dst = some d) (hd : Nat.blt d sz = true) (hg : guardV ops t o = some true) (w : WD E sz ops bl (⟨false, .agg cs, [], false, [], n, n⟩ :: pre) l (upd t d (.agg cs)) h n R) : WD E sz ops bl pre (o :: l) t h n R := d0 (op_build ho hb) hdd hd hg w
theorem rixl {fr nn : Bool} {es : List (List T)} {cs : List T} {e : TypeId} {s : Nat} (ho : o.op = .indexAddr ty x y) (hx : E.eval t x = .sl fr nn es) (hy : E.eval t y = .int k a) (hs : sliceP E.P ty = some (e, s)) (h0 : 0 ≤ a) (hi : es[a.toNat]? = some cs) (hcl : cs.length = s) {d : Nat} (hdd : o.dst = some d) (hd : Nat.blt d sz = true) (hg : guardV ops t o = some true) (w : WR E sz ops l (upd t d (.iptr fr cs)) h n R) : WR E sz ops (o :: l) t h n R := r0 (op_index_sl ho hx hy hs h0 hi hcl) hdd hd hg w
theorem dixl {fr nn : Bool} {es : List (List T)} {cs : List T} {e : TypeId} {s : Nat} (ho : o.op = .indexAddr ty x y) (hx : E.eval t x = .sl fr nn es) (hy : E.eval t y = .int k a) (hs : sliceP E.P ty = some (e, s)) (h0 : 0 ≤ a) (hi : es[a.toNat]? = some cs) (hcl : cs.length = s) {d : Nat} (hdd : o.dst = some d) (hd : Nat.blt d sz = true) (hg : guardV ops t o = some true) (w : WD E sz ops bl (⟨false, .iptr fr cs, [], false, [], n, n⟩ :: pre) l (upd t d (.iptr fr cs)) h n R) : WD E sz ops bl pre (o :: l) t h n R := d0 (op_index_sl ho hx hy hs h0 hi hcl) hdd hd hg w
theorem rlir {fr : Bool} {s : Nat} {cs : List T} {vs : List V} (ho : o.op = .load ty x) (hx : E.eval t x = .iptr fr cs) (hr : rowP E.P ty = some (true, s)) (hl : s ≤ cs.length) (hv : (cs.take s).map (T.toV fr) = vs) {d : Nat} (hdd : o.dst = some d) (hd : Nat.blt d sz = true) (hg : guardV ops t o = some true) (w : WR E sz ops l (upd t d (.agg vs)) h n R) : WR E sz ops (o :: l) t h n R := r0 ((op_load_irow ho hx hr hl).to (by rw [hv])) hdd hd hg w
theorem dlir {fr : Bool} {s : Nat} {cs : List T} {vs : List V} (ho : o.op = .load ty x) (hx : E.eval t x = .iptr fr cs) (hr : rowP E.P ty = some (true, s)) (hl : s ≤ cs.length) (hv : (cs.take s).map (T.toV fr) = vs) {d : Nat} (hdd : o.dst = some d) (hd : Nat.blt d sz = true) (hg : guardV ops t o = some true) (w : WD E sz ops bl (⟨false, .agg vs, [], false, [], n, n⟩ :: pre) l (upd t d (.agg vs)) h n R) : WD E sz ops bl pre (o :: l) t h n R := d0 ((op_load_irow ho hx hr hl).to (by rw [hv])) hdd hd hg w
theorem rlic {fr : Bool} {s : Nat} {cs : List T} {u : T} (ho : o.op = .load ty x) (hx : E.eval t x = .iptr fr cs) (hr : rowP E.P ty = some (false, s)) (hl : cs[0]? = some u) (hv : u.toV fr = v) {d : Nat} (hdd : o.dst = some d) (hd : Nat.blt d sz = true) (hg : guardV ops t o = some true) (w : WR E sz ops l (upd t d (v)) h n R) : WR E sz ops (o :: l) t h n R := r0 ((op_load_icell ho hx hr hl).to hv) hdd hd hg w
theorem dlic {fr : Bool} {s : Nat} {cs : List T} {u : T} (ho : o.op = .load ty x) (hx : E.eval t x = .iptr fr cs) (hr : rowP E.P ty = some (false, s)) (hl : cs[0]? = some u) (hv : u.toV fr = v) {d : Nat} (hdd : o.dst = some d) (hd : Nat.blt d sz = true) (hg : guardV ops t o = some true) (w : WD E sz ops bl (⟨false, v, [], false, [], n, n⟩ :: pre) l (upd t d (v)) h n R) : WD E sz ops bl pre (o :: l) t h n R := d0 ((op_load_icell ho hx hr hl).to hv) hdd hd hg w
theorem rnil {c : Bool} {e : TypeId} {i j : Nat} (ho : o.op = .binOp .eql ty x (.const (.slice none i j)) ty') (hu : E.P.underlying ty = some (.slice e)) (hx : nilV (E.eval t x) = some c) {d : Nat} (hdd : o.dst = some d) (hd : Nat.blt d sz = true) (hg : guardV ops t o = some true) (w : WR E sz ops l (upd t d (.bool c)) h n R) : WR E sz ops (o :: l) t h n R := r0 ((op_isnil ho (by simp) hu hx).to (by simp)) hdd hd hg w
theorem rlr {i j m s : Nat} {B : Blk} {cs vs : List V} (ho : o.op = .load ty x) (hx : E.eval t x = .ptr i j m) (hb : h i = some B) (hi : B.es[j]? = some cs) (hr : rowP E.P ty = some (true, s)) (hl : m + s ≤ cs.length) (hv : (cs.drop m).take s = vs) {d : Nat} (hdd : o.dst = some d) (hd : Nat.blt d sz = true) (hg : guardV ops t o = some true) (w : WR E sz ops l (upd t d (.agg vs)) h n R) : WR E sz ops (o :: l) t h n R := r0 ((op_load_row ho hx hb hi hr hl).to (by rw [hv])) hdd hd hg w
theorem dlr {i j m s : Nat} {B : Blk} {cs vs : List V} (ho : o.op = .load ty x) (hx : E.eval t x = .ptr i j m) (hb : h i = some B) (hi : B.es[j]? = some cs) (hr : rowP E.P ty = some (true, s)) (hl : m + s ≤ cs.length) (hv : (cs.drop m).take s = vs) {d : Nat} (hdd : o.dst = some d) (hd : Nat.blt d sz = true) (hg : guardV ops t o = some true) (w : WD E sz ops bl (⟨false, .agg vs, [i], false, [], n, n⟩ :: pre) l (upd t d (.agg vs)) h n R) : WD E sz ops bl pre (o :: l) t h n R := d0 ((op_load_row ho hx hb hi hr hl).to (by rw [hv])) hdd hd hg w
theorem rlc {i j m s : Nat} {B : Blk} {cs : List V} (ho : o.op = .load ty x) (hx : E.eval t x = .ptr i j m) (hb : h i = some B) (hi : B.es[j]? = some cs) (hr : rowP E.P ty = some (false, s)) (hl : cs[m]? = some v) {d : Nat} (hdd : o.dst = some d) (hd : Nat.blt d sz = true) (hg : guardV ops t o = some true) (w : WR E sz ops l (upd t d (v)) h n R) : WR E sz ops (o :: l) t h n R := r0 (op_load_cell ho hx hb hi hr hl) hdd hd hg w
theorem dlc {i j m s : Nat} {B : Blk} {cs : List V} (ho : o.op = .load ty x) (hx : E.eval t x = .ptr i j m) (hb : h i = some B) (hi : B.es[j]? = some cs) (hr : rowP E.P ty = some (false, s)) (hl : cs[m]? = some v) {d : Nat} (hdd : o.dst = some d) (hd : Nat.blt d sz = true) (hg : guardV ops t o = some true) (w : WD E sz ops bl (⟨false, v, [i], false, [], n, n⟩ :: pre) l (upd t d (v)) h n R) : WD E sz ops bl pre (o :: l) t h n R := d0 (op_load_cell ho hx hb hi hr hl) hdd hd hg w
theorem rst {i j m s : Nat} {B : Blk} {cs ys : List V} {r : Bool} {u : V} (ho : o.op = .store ty x y) (hx : E.eval t x = .ptr i j m) (hy : E.eval t y = u) (hb : h i = some B) (hi : B.es[j]? = some cs) (hr : rowP E.P ty = some (r, s)) (hk : u.known = true) (hkl : u.cells.length = s) (hc : u.cells.all V.cell = true) (hl : m + s ≤ cs.length) (hs : splice cs m u.cells = ys) (hdd : o.dst = none) (hg : guardV ops t o = some true) (w : WR E sz ops l t (app [(i, some { B with es := B.es.set j ys })] h) n R) : WR E sz ops (o :: l) t h n R := rOp (op_st ho hx hy hb hi hr hk hkl hc hl hs) (by rw [hdd]; rfl) hg (Nat.le_refl _) (fun h => by simp at h) (by rw [hdd]; exact w)
theorem dst {i j m s : Nat} {B : Blk} {cs ys : List V} {r : Bool} {u : V} (ho : o.op = .store ty x y) (hx : E.eval t x = .ptr i j m) (hy : E.eval t y = u) (hb : h i = some B) (hi : B.es[j]? = some cs) (hr : rowP E.P ty = some (r, s)) (hk : u.known = true) (hkl : u.cells.length = s) (hc : u.cells.all V.cell = true) (hl : m + s ≤ cs.length) (hs : splice cs m u.cells = ys) (hdd : o.dst = none) (hg : guardV ops t o = some true) (w : WD E sz ops bl (⟨false, .unk, [i], false, [(i, some { B with es := B.es.set j ys })], n, n⟩ :: pre) l t (app [(i, some { B with es := B.es.set j ys })] h) n R) : WD E sz ops bl pre (o :: l) t h n R := dOp (op_st ho hx hy hb hi hr hk hkl hc hl hs) (by rw [hdd]; rfl) hg (Nat.le_refl _) (fun h => by simp at h) (by rw [hdd]; exact w)
theorem ral {zs : List V} (ho : o.op = .alloc ty) (hz : zeroV E.P ty = some zs) (hc : zs.all V.cell = true) {d : Nat} (hdd : o.dst = some d) (hd : Nat.blt d sz = true) (hg : guardV ops t o = some true) (w : WR E sz ops l (upd t d (.ptr n 0 0)) (app [(n, some ⟨[zs], zs.length, ty⟩)] h) (n + 1) R) : WR E sz ops (o :: l) t h n R := rOpD (op_alloc ho hz hc) hdd hd hg (by omega) (fun h => by simp at h) w
theorem dal {zs : List V} (ho : o.op = .alloc ty) (hz : zeroV E.P ty = some zs) (hc : zs.all V.cell = true) {d : Nat} (hdd : o.dst = some d) (hd : Nat.blt d sz = true) (hg : guardV ops t o = some true) (w : WD E sz ops bl (⟨false, .ptr n 0 0, [], false, [(n, some ⟨[zs], zs.length, ty⟩)], n, n + 1⟩ :: pre) l (upd t d (.ptr n 0 0)) (app [(n, some ⟨[zs], zs.length, ty⟩)] h) (n + 1) R) : WD E sz ops bl pre (o :: l) t h n R := dOpD (op_alloc ho hz hc) hdd hd hg (by omega) (fun h => by simp at h) w
theorem rbx {u : V} (ho : o.op = .box ty x) (hx : E.eval t x = u) (hk : u.known = true) (hc : u.cells.all V.cell = true) {d : Nat} (hdd : o.dst = some d) (hd : Nat.blt d sz = true) (hg : guardV ops t o = some true) (w : WR E sz ops l (upd t d (.ptr n 0 0)) (app [(n, some ⟨[u.cells], u.cells.length, ty⟩)] h) (n + 1) R) : WR E sz ops (o :: l) t h n R := rOpD (by subst hx; exact op_box ho hk hc) hdd hd hg (by omega) (fun h => by simp at h) w
theorem rbs {m s : Nat} {ps : Array (Nat × Operand)} {zs : List V} {es : List (List V)} {e : TypeId} (ho : o.op = .buildSlice ty m ps) (hs : sliceP E.P ty = some (e, s)) (hz : zeroV E.P e = some zs) (hzs : zs.length = s) (h0 : s ≠ 0) (hb : m * s ≤ 16777216) (hl : litV E t s (List.replicate m zs) ps.toList = some es) (hc : (es.all fun x => x.all V.cell) = true) {d : Nat} (hdd : o.dst = some d) (hd : Nat.blt d sz = true) (hg : guardV ops t o = some true) (w : WR E sz ops l (upd t d (.view n 0 m)) (app [(n, some ⟨es, s, e⟩)] h) (n + 1) R) : WR E sz ops (o :: l) t h n R := rOpD (op_buildSlice ho hs hz hzs h0 hb hl hc) hdd hd hg (by omega) (fun h => by simp at h) w
theorem dbs {m s : Nat} {ps : Array (Nat × Operand)} {zs : List V} {es : List (List V)} {e : TypeId} (ho : o.op = .buildSlice ty m ps) (hs : sliceP E.P ty = some (e, s)) (hz : zeroV E.P e = some zs) (hzs : zs.length = s) (h0 : s ≠ 0) (hb : m * s ≤ 16777216) (hl : litV E t s (List.replicate m zs) ps.toList = some es) (hc : (es.all fun x => x.all V.cell) = true) {d : Nat} (hdd : o.dst = some d) (hd : Nat.blt d sz = true) (hg : guardV ops t o = some true) (w : WD E sz ops bl (⟨false, .view n 0 m, [], false, [(n, some ⟨es, s, e⟩)], n, n + 1⟩ :: pre) l (upd t d (.view n 0 m)) (app [(n, some ⟨es, s, e⟩)] h) (n + 1) R) : WD E sz ops bl pre (o :: l) t h n R := dOpD (op_buildSlice ho hs hz hzs h0 hb hl hc) hdd hd hg (by omega) (fun h => by simp at h) w
theorem rap {s s' i j m : Nat} {B : Blk} {es : List (List V)} {e : TypeId} (ho : o.op = .call { callee := .builtin .append, args := #[x, y], argTypes := #[ty, ty'] }) (hx : E.eval t x = .view i j m) (hb : h i = some B) (hbz : B.sz = s) (hbt : B.ty = e) (hfull : j + m = B.es.length) (hs : elemP E.P ty = some (e, s, s')) (htx : srcP E.P ty' = true) (h0 : s ≠ 0) (hy : srcV h (E.eval t y) = some es) (hyz : ∀ c ∈ es, c.length = s) (hbd : (m + es.length) * s' ≤ 140737488355328) (hl : m + es.length ≤ 9223372036854775807) {d : Nat} (hdd : o.dst = some d) (hd : Nat.blt d sz = true) (hg : guardV ops t o = some true) (w : WR E sz ops l (upd t d (.view n 0 (m + es.length))) (app [(i, none), (n, some ⟨B.es.drop j ++ es, s, e⟩)] h) (n + 1) R) : WR E sz ops (o :: l) t h n R := rOpD (op_append_view ho hx hb hbz hbt hfull hs htx h0 hy hyz hbd hl) hdd hd hg (by omega) (fun h => by simp at h) w
theorem dap {s s' i j m : Nat} {B : Blk} {es : List (List V)} {e : TypeId} (ho : o.op = .call { callee := .builtin .append, args := #[x, y], argTypes := #[ty, ty'] }) (hx : E.eval t x = .view i j m) (hb : h i = some B) (hbz : B.sz = s) (hbt : B.ty = e) (hfull : j + m = B.es.length) (hs : elemP E.P ty = some (e, s, s')) (htx : srcP E.P ty' = true) (h0 : s ≠ 0) (hy : srcV h (E.eval t y) = some es) (hyz : ∀ c ∈ es, c.length = s) (hbd : (m + es.length) * s' ≤ 140737488355328) (hl : m + es.length ≤ 9223372036854775807) {d : Nat} (hdd : o.dst = some d) (hd : Nat.blt d sz = true) (hg : guardV ops t o = some true) (w : WD E sz ops bl (⟨false, .view n 0 (m + es.length), (i :: srcIds (E.eval t y)), false, [(i, none), (n, some ⟨B.es.drop j ++ es, s, e⟩)], n, n + 1⟩ :: pre) l (upd t d (.view n 0 (m + es.length))) (app [(i, none), (n, some ⟨B.es.drop j ++ es, s, e⟩)] h) (n + 1) R) : WD E sz ops bl pre (o :: l) t h n R := dOpD (op_append_view ho hx hb hbz hbt hfull hs htx h0 hy hyz hbd hl) hdd hd hg (by omega) (fun h => by simp at h) w
theorem ran {s s' : Nat} {es : List (List V)} {e : TypeId} (ho : o.op = .call { callee := .builtin .append, args := #[x, y], argTypes := #[ty, ty'] }) (hx : E.eval t x = .nsl) (hs : elemP E.P ty = some (e, s, s')) (htx : srcP E.P ty' = true) (h0 : s ≠ 0) (hy : srcV h (E.eval t y) = some es) (hyz : ∀ c ∈ es, c.length = s) (hne : 0 < es.length) (hbd : es.length * s' ≤ 140737488355328) (hl : es.length ≤ 9223372036854775807) {d : Nat} (hdd : o.dst = some d) (hd : Nat.blt d sz = true) (hg : guardV ops t o = some true) (w : WR E sz ops l (upd t d (.view n 0 es.length)) (app [(n, some ⟨es, s, e⟩)] h) (n + 1) R) : WR E sz ops (o :: l) t h n R := rOpD (op_append_nil ho hx hs htx h0 hy hyz hne hbd hl) hdd hd hg (by omega) (fun h => by simp at h) w
theorem dan {s s' : Nat} {es : List (List V)} {e : TypeId} (ho : o.op = .call { callee := .builtin .append, args := #[x, y], argTypes := #[ty, ty'] }) (hx : E.eval t x = .nsl) (hs : elemP E.P ty = some (e, s, s')) (htx : srcP E.P ty' = true) (h0 : s ≠ 0) (hy : srcV h (E.eval t y) = some es) (hyz : ∀ c ∈ es, c.length = s) (hne : 0 < es.length) (hbd : es.length * s' ≤ 140737488355328) (hl : es.length ≤ 9223372036854775807) {d : Nat} (hdd : o.dst = some d) (hd : Nat.blt d sz = true) (hg : guardV ops t o = some true) (w : WD E sz ops bl (⟨false, .view n 0 es.length, (srcIds (E.eval t y)), false, [(n, some ⟨es, s, e⟩)], n, n + 1⟩ :: pre) l (upd t d (.view n 0 es.length)) (app [(n, some ⟨es, s, e⟩)] h) (n + 1) R) : WD E sz ops bl pre (o :: l) t h n R := dOpD (op_append_nil ho hx hs htx h0 hy hyz hne hbd hl) hdd hd hg (by omega) (fun h => by simp at h) w
theorem rmk {k' : IntKind} {m s s' : Nat} {zs : List V} {e : TypeId} (ho : o.op = .makeSlice ty x y) (hx : E.eval t x = .int k m) (hy : E.eval t y = .int k' m) (hs : elemP E.P ty = some (e, s, s')) (hz : zeroV E.P e = some zs) (hc : zs.all V.cell = true) (h0 : s ≠ 0) (hb : s' * m ≤ 281474976710656) (hl : m ≤ 9223372036854775807) {d : Nat} (hdd : o.dst = some d) (hd : Nat.blt d sz = true) (hg : guardV ops t o = some true) (w : WR E sz ops l (upd t d (.view n 0 m)) (app [(n, some ⟨List.replicate m zs, s, e⟩)] h) (n + 1) R) : WR E sz ops (o :: l) t h n R := rOpD (op_make ho hx hy hs hz hc h0 hb hl) hdd hd hg (by omega) (fun h => by simp at h) w
theorem rsln {lo hi : Option Operand} {e : TypeId} {s : Nat} (ho : o.op = .slice ty x lo hi none) (hx : E.eval t x = .nsl) (hs : sliceP E.P ty = some (e, s)) (hl : bndV E t lo 0 = some 0) (hr : bndV E t hi 0 = some 0) {d : Nat} (hdd : o.dst = some d) (hd : Nat.blt d sz = true) (hg : guardV ops t o = some true) (w : WR E sz ops l (upd t d (.unk)) h n R) : WR E sz ops (o :: l) t h n R := r0 (op_slice_nsl ho hx hs hl hr) hdd hd hg w
theorem rx2 {tys : Array TypeId} {f : FuncId} {r : Int} (hrun : ∀ w, (callFunc f #[.string p, .string q]).run E.P w = .ok (.value (.int k r)) w) (ho : o.op = .call { callee := .value z, args := #[x, y], argTypes := tys }) (hc : E.eval t z = .clo f []) (hx : E.eval t x = .str p) (hy : E.eval t y = .str q) {d : Nat} (hdd : o.dst = some d) (hd : Nat.blt d sz = true) (hg : guardV ops t o = some true) (w : WR E sz ops l (upd t d (.int k r)) h n R) : WR E sz ops (o :: l) t h n R := r0 (op_ext2 hrun ho hc hx hy) hdd hd hg w
theorem res {i m : Nat} {B : Blk} {kv vv u : V} (ho : o.op = .entryStore ty x y z) (hx : E.eval t x = .map i) (hy : E.eval t y = .int .i64 m) (hz : E.eval t z = u) (hb : h i = some B) (hi : B.es[m]? = some [kv, vv]) (hdd : o.dst = none) (hg : guardV ops t o = some true) (w : WR E sz ops l t (app [(i, some { B with es := B.es.set m [kv, u] })] h) n R) : WR E sz ops (o :: l) t h n R := rOp (op_entryStore ho hx hy hz hb hi) (by rw [hdd]; rfl) hg (Nat.le_refl _) (fun h => by simp at h) (by rw [hdd]; exact w)
theorem rsg {e : TypeId} {es : List (List V)} {bs : List Int} (ho : o.op = .convert ty ty' x) (hsr : E.P.underlying ty = some (.slice e)) (he : E.P.underlying e = some (.int .u8)) (hds : E.P.underlying ty' = some .string) (hy : srcV h (E.eval t x) = some es) (hns : ∀ s, E.eval t x ≠ .str s) (hb : es = bs.map fun b => [.int .u8 b]) {d : Nat} (hdd : o.dst = some d) (hd : Nat.blt d sz = true) (hg : guardV ops t o = some true) (w : WR E sz ops l (upd t d (.str (strOf bs))) h n R) : WR E sz ops (o :: l) t h n R := r0 (op_string ho hsr he hds hy hns hb) hdd hd hg w
theorem rixv {e : TypeId} {i j m s : Nat} {B : Blk} (ho : o.op = .indexAddr ty x y) (hx : E.eval t x = .view i j m) (hy : E.eval t y = .int k a) (hs : sliceP E.P ty = some (e, s)) (hb : h i = some B) (hbz : B.sz = s) (h0 : 0 ≤ a) (h1 : a < m) {d : Nat} (hdd : o.dst = some d) (hd : Nat.blt d sz = true) (hg : guardV ops t o = some true) (w : WR E sz ops l (upd t d (.ptr i (j + a.toNat) 0)) h n R) : WR E sz ops (o :: l) t h n R := r0 (op_index_view ho hx hy hs hb hbz h0 h1) hdd hd hg w
theorem dixv {e : TypeId} {i j m s : Nat} {B : Blk} (ho : o.op = .indexAddr ty x y) (hx : E.eval t x = .view i j m) (hy : E.eval t y = .int k a) (hs : sliceP E.P ty = some (e, s)) (hb : h i = some B) (hbz : B.sz = s) (h0 : 0 ≤ a) (h1 : a < m) {d : Nat} (hdd : o.dst = some d) (hd : Nat.blt d sz = true) (hg : guardV ops t o = some true) (w : WD E sz ops bl (⟨false, .ptr i (j + a.toNat) 0, [i], false, [], n, n⟩ :: pre) l (upd t d (.ptr i (j + a.toNat) 0)) h n R) : WD E sz ops bl pre (o :: l) t h n R := d0 (op_index_view ho hx hy hs hb hbz h0 h1) hdd hd hg w
theorem rslv {lo hi : Option Operand} {e : TypeId} {i j m s : Nat} {B : Blk} (ho : o.op = .slice ty x lo hi none) (hx : E.eval t x = .view i j m) (hs : sliceP E.P ty = some (e, s)) (hb : h i = some B) (hbz : B.sz = s) (hl : bndV E t lo 0 = some a) (hr : bndV E t hi m = some b) (h0 : 0 ≤ a) (h1 : a ≤ b) (h2 : b ≤ m) {d : Nat} (hdd : o.dst = some d) (hd : Nat.blt d sz = true) (hg : guardV ops t o = some true) (w : WR E sz ops l (upd t d (.view i (j + a.toNat) (b.toNat - a.toNat))) h n R) : WR E sz ops (o :: l) t h n R := r0 (op_slice_view ho hx hs hb hbz hl hr h0 h1 h2) hdd hd hg w
theorem dslv {lo hi : Option Operand} {e : TypeId} {i j m s : Nat} {B : Blk} (ho : o.op = .slice ty x lo hi none) (hx : E.eval t x = .view i j m) (hs : sliceP E.P ty = some (e, s)) (hb : h i = some B) (hbz : B.sz = s) (hl : bndV E t lo 0 = some a) (hr : bndV E t hi m = some b) (h0 : 0 ≤ a) (h1 : a ≤ b) (h2 : b ≤ m) {d : Nat} (hdd : o.dst = some d) (hd : Nat.blt d sz = true) (hg : guardV ops t o = some true) (w : WD E sz ops bl (⟨false, .view i (j + a.toNat) (b.toNat - a.toNat), [i], false, [], n, n⟩ :: pre) l (upd t d (.view i (j + a.toNat) (b.toNat - a.toNat))) h n R) : WD E sz ops bl pre (o :: l) t h n R := d0 (op_slice_view ho hx hs hb hbz hl hr h0 h1 h2) hdd hd hg w
theorem rmax {tys : Array TypeId} (ho : o.op = .call { callee := .builtin .max, args := #[x, y], argTypes := tys }) (hx : E.eval t x = .int k a) (hy : E.eval t y = .int k b) {d : Nat} (hdd : o.dst = some d) (hd : Nat.blt d sz = true) (hg : guardV ops t o = some true) (w : WR E sz ops l (upd t d (.int k (max a b))) h n R) : WR E sz ops (o :: l) t h n R := r0 (op_max ho hx hy) hdd hd hg w
theorem rcl {tys : Array TypeId} {f : FuncId} {args : Array Operand} {az rs : List A} (hpure : Pure E f az rs) (ho : o.op = .call { callee := .value z, args := args, argTypes := tys }) (hc : E.eval t z = .clo f []) (hs : dataL false (args.toList.map (E.eval t)) = some az) {d : Nat} (hdd : o.dst = some d) (hd : Nat.blt d sz = true) (hg : guardV ops t o = some true) (w : WR E sz ops l (upd t d (retV true rs)) h n R) : WR E sz ops (o :: l) t h n R := r0 (op_callD ho hc hs hpure) hdd hd hg w
theorem rclS {tys : Array TypeId} {f : FuncId} {args : Array Operand} {az rs : List A} {vs : List V} (ids : List Nat) (hpure : Pure E f az rs) (ho : o.op = .call { callee := .value z, args := args, argTypes := tys }) (hc : E.eval t z = .clo f []) (hv : args.toList.map (E.eval t) = vs) (hs : SnapL h ids false vs az) {d : Nat} (hdd : o.dst = some d) (hd : Nat.blt d sz = true) (hg : guardV ops t o = some true) (w : WR E sz ops l (upd t d (retV true rs)) h n R) : WR E sz ops (o :: l) t h n R := r0 (op_callS ho hc hv hs hpure) hdd hd hg w
theorem rclP {tys : Array TypeId} {f : FuncId} {args : Array Operand} {az : List A} {c : Prop} [Decidable c] (hpure : Pure E f az [.one (.bool (decide c))]) (ho : o.op = .call { callee := .value z, args := args, argTypes := tys }) (hc : E.eval t z = .clo f []) (hs : dataL false (args.toList.map (E.eval t)) = some az) {d : Nat} (hdd : o.dst = some d) (hd : Nat.blt d sz = true) (hg : guardV ops t o = some true) (w1 : c → WR E sz ops l (upd t d (.bool true)) h n R) (w2 : ¬ c → WR E sz ops l (upd t d (.bool false)) h n R) : WR E sz ops (o :: l) t h n R := by
  have ho2 := OpOK.case (c := c) (h := h) (n := n) (op_callD ho hc hs hpure)
  by_cases hc2 : c
  · exact r0 (ho2.1 hc2) hdd hd hg (w1 hc2)
  · exact r0 (ho2.2 hc2) hdd hd hg (w2 hc2)
theorem rop {tys : Array TypeId} {f : FuncId} {args : Array Operand} {caps vs : List V} {wr : List (Nat × Option Blk)} {n1 : Nat} (hop : Open E f vs h n v wr n1) (ho : o.op = .call { callee := .value z, args := args, argTypes := tys }) (hc : E.eval t z = .clo f caps) (hv : args.toList.map (E.eval t) ++ caps = vs) {d : Nat} (hdd : o.dst = some d) (hd : Nat.blt d sz = true) (hg : guardV ops t o = some true) (w : WR E sz ops l (upd t d v) (app wr h) n1 R) : WR E sz ops (o :: l) t h n R := rOpD (op_open ho hc (by rw [hv]; exact hop)) hdd hd hg hop.le (fun _ h => by simp at h) w
theorem dcl {tys : Array TypeId} {f : FuncId} {args : Array Operand} {az rs : List A} (hpure : Pure E f az rs) (ho : o.op = .call { callee := .value z, args := args, argTypes := tys }) (hc : E.eval t z = .clo f []) (hs : dataL false (args.toList.map (E.eval t)) = some az) {d : Nat} (hdd : o.dst = some d) (hd : Nat.blt d sz = true) (hg : guardV ops t o = some true) (w : WD E sz ops bl (⟨false, retV true rs, [], false, [], n, n⟩ :: pre) l (upd t d (retV true rs)) h n R) : WD E sz ops bl pre (o :: l) t h n R := d0 (op_callD ho hc hs hpure) hdd hd hg w
theorem dclS {tys : Array TypeId} {f : FuncId} {args : Array Operand} {az rs : List A} {vs : List V} (ids : List Nat) (hpure : Pure E f az rs) (ho : o.op = .call { callee := .value z, args := args, argTypes := tys }) (hc : E.eval t z = .clo f []) (hv : args.toList.map (E.eval t) = vs) (hs : SnapL h ids false vs az) {d : Nat} (hdd : o.dst = some d) (hd : Nat.blt d sz = true) (hg : guardV ops t o = some true) (w : WD E sz ops bl (⟨false, retV true rs, ids, false, [], n, n⟩ :: pre) l (upd t d (retV true rs)) h n R) : WD E sz ops bl pre (o :: l) t h n R := d0 (op_callS ho hc hv hs hpure) hdd hd hg w
theorem dclP {tys : Array TypeId} {f : FuncId} {args : Array Operand} {az : List A} {c : Prop} [Decidable c] (hpure : Pure E f az [.one (.bool (decide c))]) (ho : o.op = .call { callee := .value z, args := args, argTypes := tys }) (hc : E.eval t z = .clo f []) (hs : dataL false (args.toList.map (E.eval t)) = some az) {d : Nat} (hdd : o.dst = some d) (hd : Nat.blt d sz = true) (hg : guardV ops t o = some true) (w1 : c → WD E sz ops bl (⟨false, .bool true, [], false, [], n, n⟩ :: pre) l (upd t d (.bool true)) h n R) (w2 : ¬ c → WD E sz ops bl (⟨false, .bool false, [], false, [], n, n⟩ :: pre) l (upd t d (.bool false)) h n R) : WD E sz ops bl pre (o :: l) t h n R := by
  have ho2 := OpOK.case (c := c) (h := h) (n := n) (op_callD ho hc hs hpure)
  by_cases hc2 : c
  · exact d0 (ho2.1 hc2) hdd hd hg (w1 hc2)
  · exact d0 (ho2.2 hc2) hdd hd hg (w2 hc2)
theorem dop {tys : Array TypeId} {f : FuncId} {args : Array Operand} {caps vs : List V} {wr : List (Nat × Option Blk)} {n1 : Nat} (hop : Open E f vs h n v wr n1) (ho : o.op = .call { callee := .value z, args := args, argTypes := tys }) (hc : E.eval t z = .clo f caps) (hv : args.toList.map (E.eval t) ++ caps = vs) {d : Nat} (hdd : o.dst = some d) (hd : Nat.blt d sz = true) (hg : guardV ops t o = some true) (w : WD E sz ops bl (⟨false, v, [], true, wr, n, n1⟩ :: pre) l (upd t d v) (app wr h) n1 R) : WD E sz ops bl pre (o :: l) t h n R := dOpD (op_open ho hc (by rw [hv]; exact hop)) hdd hd hg hop.le (fun _ h => by simp at h) w
theorem ropB {tys : Array TypeId} {f : FuncId} {args : Array Operand} {caps vs : List V} {wr : List (Nat × Option Blk)} {n1 : Nat} {c : Bool} (hop : Open E f vs h n (.bool c) wr n1) (ho : o.op = .call { callee := .value z, args := args, argTypes := tys }) (hc : E.eval t z = .clo f caps) (hv : args.toList.map (E.eval t) ++ caps = vs) {d : Nat} (hdd : o.dst = some d) (hd : Nat.blt d sz = true) (hg : guardV ops t o = some true) (w1 : c = true → WR E sz ops l (upd t d (.bool true)) (app wr h) n1 R) (w2 : c = false → WR E sz ops l (upd t d (.bool false)) (app wr h) n1 R) : WR E sz ops (o :: l) t h n R := by
  cases hc2 : c
  · rw [hc2] at hop; exact rop hop ho hc hv hdd hd hg (w2 hc2)
  · rw [hc2] at hop; exact rop hop ho hc hv hdd hd hg (w1 hc2)
theorem rclX {α : Type} {p : α → Prop} {tys : Array TypeId} {f : FuncId} {args : Array Operand} {az : List A} {rs : α → List A} (hpure : ∃ a, p a ∧ Pure E f az (rs a)) (ho : o.op = .call { callee := .value z, args := args, argTypes := tys }) (hc : E.eval t z = .clo f []) (hs : dataL false (args.toList.map (E.eval t)) = some az) {d : Nat} (hdd : o.dst = some d) (hd : Nat.blt d sz = true) (hg : guardV ops t o = some true) (w : ∀ a, p a → WR E sz ops l (upd t d (retV true (rs a))) h n R) : WR E sz ops (o :: l) t h n R := by
  obtain ⟨a, h1, h2⟩ := hpure
  exact rcl h2 ho hc hs hdd hd hg (w a h1)
theorem ropX {α : Type} {p : α → Prop} {tys : Array TypeId} {f : FuncId} {args : Array Operand} {caps vs : List V} {v : α → V} {wr : α → List (Nat × Option Blk)} {n1 : α → Nat} (hop : ∃ a, p a ∧ Open E f vs h n (v a) (wr a) (n1 a)) (ho : o.op = .call { callee := .value z, args := args, argTypes := tys }) (hc : E.eval t z = .clo f caps) (hv : args.toList.map (E.eval t) ++ caps = vs) {d : Nat} (hdd : o.dst = some d) (hd : Nat.blt d sz = true) (hg : guardV ops t o = some true) (w : ∀ a, p a → WR E sz ops l (upd t d (v a)) (app (wr a) h) (n1 a) R) : WR E sz ops (o :: l) t h n R := by
  obtain ⟨a, h1, h2⟩ := hop
  exact rop h2 ho hc hv hdd hd hg (w a h1)
theorem dopX {α : Type} {p : α → Prop} {tys : Array TypeId} {f : FuncId} {args : Array Operand} {caps vs : List V} {v : α → V} {wr : α → List (Nat × Option Blk)} {n1 : α → Nat} (hop : ∃ a, p a ∧ Open E f vs h n (v a) (wr a) (n1 a)) (ho : o.op = .call { callee := .value z, args := args, argTypes := tys }) (hc : E.eval t z = .clo f caps) (hv : args.toList.map (E.eval t) ++ caps = vs) {d : Nat} (hdd : o.dst = some d) (hd : Nat.blt d sz = true) (hg : guardV ops t o = some true) (w : ∀ a, p a → WD E sz ops bl (⟨false, v a, [], true, wr a, n, n1 a⟩ :: pre) l (upd t d (v a)) (app (wr a) h) (n1 a) R) : WD E sz ops bl pre (o :: l) t h n R := by
  obtain ⟨a, h1, h2⟩ := hop
  exact dop h2 ho hc hv hdd hd hg (w a h1)
end rules
end Go.V
