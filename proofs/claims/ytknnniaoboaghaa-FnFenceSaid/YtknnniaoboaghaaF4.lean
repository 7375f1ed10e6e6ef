import Derived.Test.YtknnniaoboaghaaProg
import Derived.Test.YtknnniaoboaghaaF3
namespace Go.V
open Go.RowKit (Below)
set_option linter.unusedSimpArgs false
set_option linter.unusedVariables false
theorem bytes_eq (a b : ByteArray) : (a.toList == b.toList) = decide (a = b) := by
  by_cases h : a = b
  · subst h; simp
  · have : a.toList ≠ b.toList := fun e => h (by
      rw [ByteArray.toList_eq, ByteArray.toList_eq] at e
      obtain ⟨⟨x⟩⟩ := a
      obtain ⟨⟨y⟩⟩ := b
      have e : x = y := e
      rw [e])
    simp [h, this]
theorem bt_0 (s : ByteArray) (i : Nat) : 0 ≤ bt s i := by unfold bt; omega
theorem bt_255 (s : ByteArray) (i : Nat) : bt s i ≤ 255 := by
  unfold bt
  have := (s.data.toList[i]?.getD 0).toNat_lt
  omega
theorem bt_ge (s : ByteArray) (i : Nat) : -9223372036854775808 ≤ bt s i := by have := bt_0 s i; omega
theorem bt_le (s : ByteArray) (i : Nat) : bt s i ≤ 9223372036854775807 := by have := bt_255 s i; omega
theorem op_max {E : Env} {o : Oper} {t : Nat → V} {h : Heap} {n : Nat} {x y : Operand} {tys : Array TypeId} {k : IntKind} {a b : Int} (ho : o.op = .call { callee := .builtin .max, args := #[x, y], argTypes := tys }) (hx : E.eval t x = .int k a) (hy : E.eval t y = .int k b) :
    OpOK E o t h n [] false (.int k (max a b)) [] n := by
  have e : max a b = if a < b then b else a := by split <;> omega
  rw [e]
  exact OpOK.value fun c a' h2 hx' hg hrd => by
    have g1 := (by have := hx' x (by simp [ho, Op.operands, Call.operands]); rw [hx] at this; exact this.int_inv)
    have g2 := (by have := hx' y (by simp [ho, Op.operands, Call.operands]); rw [hy] at this; exact this.int_inv)
    refine ⟨.int k (if a < b then b else a), ?_, .int _ _⟩
    simp [execOp, ho, g1, g2, resolve, invoke, builtin, Builtin.max_, Builtin.max2]
theorem op_min {E : Env} {o : Oper} {t : Nat → V} {h : Heap} {n : Nat} {x y : Operand} {tys : Array TypeId} {k : IntKind} {a b : Int} (ho : o.op = .call { callee := .builtin .min, args := #[x, y], argTypes := tys }) (hx : E.eval t x = .int k a) (hy : E.eval t y = .int k b) :
    OpOK E o t h n [] false (.int k (min a b)) [] n := by
  have e : min a b = if b < a then b else a := by split <;> omega
  rw [e]
  exact OpOK.value fun c a' h2 hx' hg hrd => by
    have g1 := (by have := hx' x (by simp [ho, Op.operands, Call.operands]); rw [hx] at this; exact this.int_inv)
    have g2 := (by have := hx' y (by simp [ho, Op.operands, Call.operands]); rw [hy] at this; exact this.int_inv)
    refine ⟨.int k (if b < a then b else a), ?_, .int _ _⟩
    simp [execOp, ho, g1, g2, resolve, invoke, builtin, Builtin.min_, Builtin.min2]
inductive SnapC (h : Heap) (ids : List Nat) (r : Bool) : List V → List T → Prop
  | nil : SnapC h ids r [] []
  | cons (x : V) (y : T) (xs : List V) (ys : List T) (hs : Snap h ids r x y) (hr : SnapC h ids r xs ys) : SnapC h ids r (x :: xs) (y :: ys)
inductive SnapL (h : Heap) (ids : List Nat) (r : Bool) : List V → List A → Prop
  | nil : SnapL h ids r [] []
  | cons (x : V) (y : A) (xs : List V) (ys : List A) (hs : SnapA h ids r x y) (hr : SnapL h ids r xs ys) : SnapL h ids r (x :: xs) (y :: ys)
theorem SnapC.spec {h : Heap} {ids : List Nat} {r : Bool} {xs : List V} {ys : List T} (s : SnapC h ids r xs ys) : xs.length = ys.length ∧ ∀ (i : Nat) (x : V) (y : T), xs[i]? = some x → ys[i]? = some y → Snap h ids r x y := by
  induction s with
  | nil => exact ⟨rfl, by simp⟩
  | cons x y xs ys hs hr ih =>
    refine ⟨by simp [ih.1], fun i u v hu hv => ?_⟩
    cases i with
    | zero =>
      simp only [List.getElem?_cons_zero, Option.some.injEq] at hu hv
      subst hu; subst hv; exact hs
    | succ i => exact ih.2 i u v (by simpa using hu) (by simpa using hv)
theorem SnapC.agg {h : Heap} {ids : List Nat} {r : Bool} {xs : List V} {ys : List T} (s : SnapC h ids r xs ys) : SnapA h ids r (.agg xs) (.agg ys) := .agg xs ys s.spec.1 s.spec.2
theorem SnapL.spec {h : Heap} {ids : List Nat} {r : Bool} {xs : List V} {ys : List A} (s : SnapL h ids r xs ys) : xs.length = ys.length ∧ ∀ (i : Nat) (x : V) (y : A), xs[i]? = some x → ys[i]? = some y → SnapA h ids r x y := by
  induction s with
  | nil => exact ⟨rfl, by simp⟩
  | cons x y xs ys hs hr ih =>
    refine ⟨by simp [ih.1], fun i u v hu hv => ?_⟩
    cases i with
    | zero =>
      simp only [List.getElem?_cons_zero, Option.some.injEq] at hu hv
      subst hu; subst hv; exact hs
    | succ i => exact ih.2 i u v (by simpa using hu) (by simpa using hv)
theorem snapT {h : Heap} {ids : List Nat} {r fr : Bool} (x : T) (hr : r = true → fr = true) : Snap h ids r (x.toV fr) x := by
  cases x with
  | sl nn es => exact .sl fr nn es fun h => .inl (hr h)
  | _ => constructor
def rowsV (rows : List (List T)) : List (List V) := rows.map (·.map (T.toV true))
theorem X8 (a : List (List T)) : (rowsV a).length = a.length := by simp [rowsV]
theorem H7 {h : Heap} {ids : List Nat} {r : Bool} {id m : Nat} {b : Blk} (rows : List (List T)) (hid : id ∈ ids) (hb : h id = some b) (he : b.es = rowsV rows) (hm : m = rows.length) : Snap h ids r (.view id 0 m) (.sl true rows) := by
  subst hm
  have e : ((b.es.drop 0).take rows.length) = rowsV rows := by
    rw [he, List.drop_zero, List.take_of_length_le]
    rw [X8]; exact Nat.le_refl _
  refine .view id 0 _ b rows hid hb (by rw [he, X8]; omega) rfl (fun i x y h1 h2 => ?_) (fun i j x y h1 h2 => ?_)
  · rw [e] at h1
    simp only [rowsV, List.getElem?_map, h2, Option.map_some, Option.some.injEq] at h1
    subst h1; simp
  · rw [e] at h1
    unfold get2 at h1 h2
    cases hr : rows[i]? with
    | none => simp [hr] at h2
    | some row =>
      simp only [rowsV, List.getElem?_map, hr, Option.map_some, Option.bind_some] at h1 h2
      rw [h2] at h1
      simp only [Option.map_some, Option.some.injEq] at h1
      subst h1
      exact snapT y fun _ => rfl
theorem BK {E : Env} {t : Nat → V} {h : Heap} {n : Nat} {o : Oper} {z : Operand} {tys : Array TypeId} {f : FuncId} {args : Array Operand} {az rs : List A} {vs : List V} {ids : List Nat} (ho : o.op = .call { callee := .value z, args := args, argTypes := tys }) (hc : E.eval t z = .clo f []) (hv : args.toList.map (E.eval t) = vs) (hs : SnapL h ids false vs az) (hpure : Pure E f az rs) :
    OpOK E o t h n ids false (retV true rs) [] n := by
  have g := hs.spec
  refine op_call (ids := ids) ho hc (by rw [← hv] at g; simpa using g.1) (fun i x a h1 h2 => g.2 i _ a ?_ h2) hpure
  have : args.toList[i]? = some x := by simpa using h1
  rw [← hv, List.getElem?_map, this]; rfl
theorem G4 {a : Int} (h1 : -9223372036854775808 ≤ a) (h2 : a ≤ 9223372036854775807) : IntKind.i64.wrap a = a := by rw [IntKind.wrap_i64]; omega
section rules
variable {E : Env} {sz : Nat} {t : Nat → V} {h : Heap} {n : Nat} {ops : Array Oper} {l : List Oper} {o : Oper} {bl : List Nat} {pre : List Ef} {R : (Nat → V) → Heap → Nat → Prop} {x y z : Operand} {ty ty' : TypeId} {k : IntKind} {a b : Int} {p q : ByteArray} {v : V}
theorem op_st {i j m s : Nat} {B : Blk} {cs ys : List V} {r : Bool} {u : V} (ho : o.op = .store ty x y) (hx : E.eval t x = .ptr i j m) (hy : E.eval t y = u) (hb : h i = some B) (hi : B.es[j]? = some cs) (hr : rowP E.P ty = some (r, s)) (hk : u.known = true) (hkl : u.cells.length = s) (hc : u.cells.all V.cell = true) (hl : m + s ≤ cs.length) (hs : splice cs m u.cells = ys) :
    OpOK E o t h n [i] false .unk [(i, some { B with es := B.es.set j ys })] n := by subst hy; subst hs; exact op_store ho hx hb hi hr hk hkl hc hl
theorem X9 {tys : Array TypeId} {f : FuncId} {args : Array Operand} {az rs : List A} (ho : o.op = .call { callee := .value z, args := args, argTypes := tys }) (hc : E.eval t z = .clo f []) (hs : dataL false (args.toList.map (E.eval t)) = some az) (hpure : Pure E f az rs) :
    OpOK E o t h n [] false (retV true rs) [] n := by
  have g := AY (h := h) (ids := []) hs
  refine op_call (ids := []) ho hc (by simpa using g.1) (fun i x a h1 h2 => g.2 i _ a ?_ h2) hpure
  have : args.toList[i]? = some x := by simpa using h1
  rw [List.getElem?_map, this]; rfl
theorem OpOK.case {rd : List Nat} {c : Prop} [Decidable c] (hop : OpOK E o t h n rd false (.bool (decide c)) [] n) : (c → OpOK E o t h n rd false (.bool true) [] n) ∧ (¬ c → OpOK E o t h n rd false (.bool false) [] n) :=
  ⟨fun hc => hop.to (by simp [hc]), fun hc => hop.to (by simp [hc])⟩
theorem OpOK.caseB {rd : List Nat} {c : Bool} (hop : OpOK E o t h n rd false (.bool c) [] n) : (c = true → OpOK E o t h n rd false (.bool true) [] n) ∧ (c = false → OpOK E o t h n rd false (.bool false) [] n) :=
  ⟨fun hc => hop.to (by rw [hc]), fun hc => hop.to (by rw [hc])⟩
theorem B6 {d : Nat} (G0 : o.op = .move x ∧ E.eval t x = .int k a ∧ o.dst = some d ∧ Nat.blt d sz = true ∧ guardV ops t o = some true) (w : WR E sz ops l (upd t d (.int k a)) h n R) : WR E sz ops (o :: l) t h n R := have ⟨ho, hx, hdd, hd, hg⟩ := G0; r0 (oMv ho hx) hdd hd hg w
theorem I0 {d : Nat} (G0 : o.op = .move x ∧ E.eval t x = .int k a ∧ o.dst = some d ∧ Nat.blt d sz = true ∧ guardV ops t o = some true) (w : WD E sz ops bl (⟨false, .int k a, [], false, [], n, n⟩ :: pre) l (upd t d (.int k a)) h n R) : WD E sz ops bl pre (o :: l) t h n R := have ⟨ho, hx, hdd, hd, hg⟩ := G0; d0 (oMv ho hx) hdd hd hg w
theorem C4 {c : Bool} {d : Nat} (G0 : o.op = .move x ∧ E.eval t x = .bool c ∧ o.dst = some d ∧ Nat.blt d sz = true ∧ guardV ops t o = some true) (w : WR E sz ops l (upd t d (.bool c)) h n R) : WR E sz ops (o :: l) t h n R := have ⟨ho, hx, hdd, hd, hg⟩ := G0; r0 (oMv ho hx) hdd hd hg w
theorem H8 {c : Bool} {d : Nat} (G0 : o.op = .move x ∧ E.eval t x = .bool c ∧ o.dst = some d ∧ Nat.blt d sz = true ∧ guardV ops t o = some true) (w : WD E sz ops bl (⟨false, .bool c, [], false, [], n, n⟩ :: pre) l (upd t d (.bool c)) h n R) : WD E sz ops bl pre (o :: l) t h n R := have ⟨ho, hx, hdd, hd, hg⟩ := G0; d0 (oMv ho hx) hdd hd hg w
theorem S7 {d : Nat} (G0 : o.op = .move x ∧ E.eval t x = .str p ∧ o.dst = some d ∧ Nat.blt d sz = true ∧ guardV ops t o = some true) (w : WR E sz ops l (upd t d (.str p)) h n R) : WR E sz ops (o :: l) t h n R := have ⟨ho, hx, hdd, hd, hg⟩ := G0; r0 (oMv ho hx) hdd hd hg w
theorem K1 {i j m : Nat} {d : Nat} (G0 : o.op = .move x ∧ E.eval t x = .view i j m ∧ o.dst = some d ∧ Nat.blt d sz = true ∧ guardV ops t o = some true) (w : WR E sz ops l (upd t d (.view i j m)) h n R) : WR E sz ops (o :: l) t h n R := have ⟨ho, hx, hdd, hd, hg⟩ := G0; r0 (oMv ho hx) hdd hd hg w
theorem dmV {i j m : Nat} {d : Nat} (G0 : o.op = .move x ∧ E.eval t x = .view i j m ∧ o.dst = some d ∧ Nat.blt d sz = true ∧ guardV ops t o = some true) (w : WD E sz ops bl (⟨false, .view i j m, [], false, [], n, n⟩ :: pre) l (upd t d (.view i j m)) h n R) : WD E sz ops bl pre (o :: l) t h n R := have ⟨ho, hx, hdd, hd, hg⟩ := G0; d0 (oMv ho hx) hdd hd hg w
theorem D9 {i j m : Nat} {d : Nat} (G0 : o.op = .move x ∧ E.eval t x = .ptr i j m ∧ o.dst = some d ∧ Nat.blt d sz = true ∧ guardV ops t o = some true) (w : WR E sz ops l (upd t d (.ptr i j m)) h n R) : WR E sz ops (o :: l) t h n R := have ⟨ho, hx, hdd, hd, hg⟩ := G0; r0 (oMv ho hx) hdd hd hg w
theorem G6 {i j m : Nat} {d : Nat} (G0 : o.op = .move x ∧ E.eval t x = .ptr i j m ∧ o.dst = some d ∧ Nat.blt d sz = true ∧ guardV ops t o = some true) (w : WD E sz ops bl (⟨false, .ptr i j m, [], false, [], n, n⟩ :: pre) l (upd t d (.ptr i j m)) h n R) : WD E sz ops bl pre (o :: l) t h n R := have ⟨ho, hx, hdd, hd, hg⟩ := G0; d0 (oMv ho hx) hdd hd hg w
theorem I8 {fr nn : Bool} {es : List (List T)} {d : Nat} (G0 : o.op = .move x ∧ E.eval t x = .sl fr nn es ∧ o.dst = some d ∧ Nat.blt d sz = true ∧ guardV ops t o = some true) (w : WR E sz ops l (upd t d (.sl fr nn es)) h n R) : WR E sz ops (o :: l) t h n R := have ⟨ho, hx, hdd, hd, hg⟩ := G0; r0 (oMv ho hx) hdd hd hg w
theorem BL {fr nn : Bool} {es : List (List T)} {d : Nat} (G0 : o.op = .move x ∧ E.eval t x = .sl fr nn es ∧ o.dst = some d ∧ Nat.blt d sz = true ∧ guardV ops t o = some true) (w : WD E sz ops bl (⟨false, .sl fr nn es, [], false, [], n, n⟩ :: pre) l (upd t d (.sl fr nn es)) h n R) : WD E sz ops bl pre (o :: l) t h n R := have ⟨ho, hx, hdd, hd, hg⟩ := G0; d0 (oMv ho hx) hdd hd hg w
theorem rmN {d : Nat} (G0 : o.op = .move x ∧ E.eval t x = .nsl ∧ o.dst = some d ∧ Nat.blt d sz = true ∧ guardV ops t o = some true) (w : WR E sz ops l (upd t d (.nsl)) h n R) : WR E sz ops (o :: l) t h n R := have ⟨ho, hx, hdd, hd, hg⟩ := G0; r0 (oMv ho hx) hdd hd hg w
theorem rmC {f : FuncId} {cs : List V} {d : Nat} (G0 : o.op = .move x ∧ E.eval t x = .clo f cs ∧ o.dst = some d ∧ Nat.blt d sz = true ∧ guardV ops t o = some true) (w : WR E sz ops l (upd t d (.clo f cs)) h n R) : WR E sz ops (o :: l) t h n R := have ⟨ho, hx, hdd, hd, hg⟩ := G0; r0 (oMv ho hx) hdd hd hg w
theorem rmT {cs : List V} {d : Nat} (G0 : o.op = .move x ∧ E.eval t x = .tup cs ∧ o.dst = some d ∧ Nat.blt d sz = true ∧ guardV ops t o = some true) (w : WR E sz ops l (upd t d (.tup cs)) h n R) : WR E sz ops (o :: l) t h n R := have ⟨ho, hx, hdd, hd, hg⟩ := G0; r0 (oMv ho hx) hdd hd hg w
theorem dmT {cs : List V} {d : Nat} (G0 : o.op = .move x ∧ E.eval t x = .tup cs ∧ o.dst = some d ∧ Nat.blt d sz = true ∧ guardV ops t o = some true) (w : WD E sz ops bl (⟨false, .tup cs, [], false, [], n, n⟩ :: pre) l (upd t d (.tup cs)) h n R) : WD E sz ops bl pre (o :: l) t h n R := have ⟨ho, hx, hdd, hd, hg⟩ := G0; d0 (oMv ho hx) hdd hd hg w
theorem D0 {d : Nat} (G0 : o.op = .assign x ∧ E.eval t x = .int k a ∧ o.dst = some d ∧ Nat.blt d sz = true ∧ guardV ops t o = some true) (w : WR E sz ops l (upd t d (.int k a)) h n R) : WR E sz ops (o :: l) t h n R := have ⟨ho, hx, hdd, hd, hg⟩ := G0; r0 (oAs ho hx) hdd hd hg w
theorem daI {d : Nat} (G0 : o.op = .assign x ∧ E.eval t x = .int k a ∧ o.dst = some d ∧ Nat.blt d sz = true ∧ guardV ops t o = some true) (w : WD E sz ops bl (⟨false, .int k a, [], false, [], n, n⟩ :: pre) l (upd t d (.int k a)) h n R) : WD E sz ops bl pre (o :: l) t h n R := have ⟨ho, hx, hdd, hd, hg⟩ := G0; d0 (oAs ho hx) hdd hd hg w
theorem C6 {c : Bool} {d : Nat} (G0 : o.op = .assign x ∧ E.eval t x = .bool c ∧ o.dst = some d ∧ Nat.blt d sz = true ∧ guardV ops t o = some true) (w : WR E sz ops l (upd t d (.bool c)) h n R) : WR E sz ops (o :: l) t h n R := have ⟨ho, hx, hdd, hd, hg⟩ := G0; r0 (oAs ho hx) hdd hd hg w
theorem K3 {c : Bool} {d : Nat} (G0 : o.op = .assign x ∧ E.eval t x = .bool c ∧ o.dst = some d ∧ Nat.blt d sz = true ∧ guardV ops t o = some true) (w : WD E sz ops bl (⟨false, .bool c, [], false, [], n, n⟩ :: pre) l (upd t d (.bool c)) h n R) : WD E sz ops bl pre (o :: l) t h n R := have ⟨ho, hx, hdd, hd, hg⟩ := G0; d0 (oAs ho hx) hdd hd hg w
theorem raS {d : Nat} (G0 : o.op = .assign x ∧ E.eval t x = .str p ∧ o.dst = some d ∧ Nat.blt d sz = true ∧ guardV ops t o = some true) (w : WR E sz ops l (upd t d (.str p)) h n R) : WR E sz ops (o :: l) t h n R := have ⟨ho, hx, hdd, hd, hg⟩ := G0; r0 (oAs ho hx) hdd hd hg w
theorem S6 {i j m : Nat} {d : Nat} (G0 : o.op = .assign x ∧ E.eval t x = .view i j m ∧ o.dst = some d ∧ Nat.blt d sz = true ∧ guardV ops t o = some true) (w : WR E sz ops l (upd t d (.view i j m)) h n R) : WR E sz ops (o :: l) t h n R := have ⟨ho, hx, hdd, hd, hg⟩ := G0; r0 (oAs ho hx) hdd hd hg w
theorem raP {i j m : Nat} {d : Nat} (G0 : o.op = .assign x ∧ E.eval t x = .ptr i j m ∧ o.dst = some d ∧ Nat.blt d sz = true ∧ guardV ops t o = some true) (w : WR E sz ops l (upd t d (.ptr i j m)) h n R) : WR E sz ops (o :: l) t h n R := have ⟨ho, hx, hdd, hd, hg⟩ := G0; r0 (oAs ho hx) hdd hd hg w
theorem raL {fr nn : Bool} {es : List (List T)} {d : Nat} (G0 : o.op = .assign x ∧ E.eval t x = .sl fr nn es ∧ o.dst = some d ∧ Nat.blt d sz = true ∧ guardV ops t o = some true) (w : WR E sz ops l (upd t d (.sl fr nn es)) h n R) : WR E sz ops (o :: l) t h n R := have ⟨ho, hx, hdd, hd, hg⟩ := G0; r0 (oAs ho hx) hdd hd hg w
theorem AA {d : Nat} (G0 : o.op = .assign x ∧ E.eval t x = .nsl ∧ o.dst = some d ∧ Nat.blt d sz = true ∧ guardV ops t o = some true) (w : WR E sz ops l (upd t d (.nsl)) h n R) : WR E sz ops (o :: l) t h n R := have ⟨ho, hx, hdd, hd, hg⟩ := G0; r0 (oAs ho hx) hdd hd hg w
theorem raZ {d : Nat} (G0 : o.op = .assign x ∧ E.eval t x = .nilp ∧ o.dst = some d ∧ Nat.blt d sz = true ∧ guardV ops t o = some true) (w : WR E sz ops l (upd t d (.nilp)) h n R) : WR E sz ops (o :: l) t h n R := have ⟨ho, hx, hdd, hd, hg⟩ := G0; r0 (oAs ho hx) hdd hd hg w
theorem C0 {c e : Bool} {d : Nat} (G0 : o.op = .pick x y z ∧ E.eval t x = .bool c ∧ pickV c (E.eval t y) (E.eval t z) = .bool e ∧ o.dst = some d ∧ Nat.blt d sz = true ∧ guardV ops t o = some true) (w : WR E sz ops l (upd t d (.bool e)) h n R) : WR E sz ops (o :: l) t h n R := have ⟨ho, hc, hv, hdd, hd, hg⟩ := G0; r0 (oPk ho hc hv) hdd hd hg w
theorem G5 {c e : Bool} {d : Nat} (G0 : o.op = .pick x y z ∧ E.eval t x = .bool c ∧ pickV c (E.eval t y) (E.eval t z) = .bool e ∧ o.dst = some d ∧ Nat.blt d sz = true ∧ guardV ops t o = some true) (w : WD E sz ops bl (⟨false, .bool e, [], false, [], n, n⟩ :: pre) l (upd t d (.bool e)) h n R) : WD E sz ops bl pre (o :: l) t h n R := have ⟨ho, hc, hv, hdd, hd, hg⟩ := G0; d0 (oPk ho hc hv) hdd hd hg w
theorem C3 (G0 : o.op = .binOp .add ty x y ty' ∧ E.eval t x = .int .i64 a ∧ E.eval t y = .int .i64 b) (h1 : -9223372036854775808 ≤ a + b) (h2 : a + b ≤ 9223372036854775807) {d : Nat} (G1 : o.dst = some d ∧ Nat.blt d sz = true ∧ guardV ops t o = some true) (w : WR E sz ops l (upd t d (.int .i64 (a + b))) h n R) : WR E sz ops (o :: l) t h n R := have ⟨ho, hx, hy⟩ := G0; have ⟨hdd, hd, hg⟩ := G1; r0 ((H6 ho hx hy rfl).to (by rw [G4 h1 h2])) hdd hd hg w
theorem V3 (G0 : o.op = .binOp .add ty x y ty' ∧ E.eval t x = .int .i64 a ∧ E.eval t y = .int .i64 b) (h1 : -9223372036854775808 ≤ a + b) (h2 : a + b ≤ 9223372036854775807) {d : Nat} (G1 : o.dst = some d ∧ Nat.blt d sz = true ∧ guardV ops t o = some true) (w : WD E sz ops bl (⟨false, .int .i64 (a + b), [], false, [], n, n⟩ :: pre) l (upd t d (.int .i64 (a + b))) h n R) : WD E sz ops bl pre (o :: l) t h n R := have ⟨ho, hx, hy⟩ := G0; have ⟨hdd, hd, hg⟩ := G1; d0 ((H6 ho hx hy rfl).to (by rw [G4 h1 h2])) hdd hd hg w
theorem S5 (G0 : o.op = .binOp .sub ty x y ty' ∧ E.eval t x = .int .i64 a ∧ E.eval t y = .int .i64 b) (h1 : -9223372036854775808 ≤ a - b) (h2 : a - b ≤ 9223372036854775807) {d : Nat} (G1 : o.dst = some d ∧ Nat.blt d sz = true ∧ guardV ops t o = some true) (w : WR E sz ops l (upd t d (.int .i64 (a - b))) h n R) : WR E sz ops (o :: l) t h n R := have ⟨ho, hx, hy⟩ := G0; have ⟨hdd, hd, hg⟩ := G1; r0 ((H6 ho hx hy rfl).to (by rw [G4 h1 h2])) hdd hd hg w
theorem dsubF (G0 : o.op = .binOp .sub ty x y ty' ∧ E.eval t x = .int .i64 a ∧ E.eval t y = .int .i64 b) (h1 : -9223372036854775808 ≤ a - b) (h2 : a - b ≤ 9223372036854775807) {d : Nat} (G1 : o.dst = some d ∧ Nat.blt d sz = true ∧ guardV ops t o = some true) (w : WD E sz ops bl (⟨false, .int .i64 (a - b), [], false, [], n, n⟩ :: pre) l (upd t d (.int .i64 (a - b))) h n R) : WD E sz ops bl pre (o :: l) t h n R := have ⟨ho, hx, hy⟩ := G0; have ⟨hdd, hd, hg⟩ := G1; d0 ((H6 ho hx hy rfl).to (by rw [G4 h1 h2])) hdd hd hg w
theorem rmulF (G0 : o.op = .binOp .mul ty x y ty' ∧ E.eval t x = .int .i64 a ∧ E.eval t y = .int .i64 b) (h1 : -9223372036854775808 ≤ a * b) (h2 : a * b ≤ 9223372036854775807) {d : Nat} (G1 : o.dst = some d ∧ Nat.blt d sz = true ∧ guardV ops t o = some true) (w : WR E sz ops l (upd t d (.int .i64 (a * b))) h n R) : WR E sz ops (o :: l) t h n R := have ⟨ho, hx, hy⟩ := G0; have ⟨hdd, hd, hg⟩ := G1; r0 ((H6 ho hx hy rfl).to (by rw [G4 h1 h2])) hdd hd hg w
theorem dmulF (G0 : o.op = .binOp .mul ty x y ty' ∧ E.eval t x = .int .i64 a ∧ E.eval t y = .int .i64 b) (h1 : -9223372036854775808 ≤ a * b) (h2 : a * b ≤ 9223372036854775807) {d : Nat} (G1 : o.dst = some d ∧ Nat.blt d sz = true ∧ guardV ops t o = some true) (w : WD E sz ops bl (⟨false, .int .i64 (a * b), [], false, [], n, n⟩ :: pre) l (upd t d (.int .i64 (a * b))) h n R) : WD E sz ops bl pre (o :: l) t h n R := have ⟨ho, hx, hy⟩ := G0; have ⟨hdd, hd, hg⟩ := G1; d0 ((H6 ho hx hy rfl).to (by rw [G4 h1 h2])) hdd hd hg w
theorem I6 {d : Nat} (G0 : o.op = .binOp .lss ty x y ty' ∧ E.eval t x = .int k a ∧ E.eval t y = .int k b ∧ o.dst = some d ∧ Nat.blt d sz = true ∧ guardV ops t o = some true) (w1 : a < b → WR E sz ops l (upd t d (.bool true)) h n R) (w2 : ¬ (a < b) → WR E sz ops l (upd t d (.bool false)) h n R) : WR E sz ops (o :: l) t h n R := by
  obtain ⟨ho, hx, hy, hdd, hd, hg⟩ := G0
  have ho2 := OpOK.case (h := h) (n := n) (c := a < b) (H6 ho hx hy rfl)
  by_cases hc : a < b
  · exact r0 (ho2.1 hc) hdd hd hg (w1 hc)
  · exact r0 (ho2.2 hc) hdd hd hg (w2 hc)
theorem dlt {d : Nat} (G0 : o.op = .binOp .lss ty x y ty' ∧ E.eval t x = .int k a ∧ E.eval t y = .int k b ∧ o.dst = some d ∧ Nat.blt d sz = true ∧ guardV ops t o = some true) (w1 : a < b → WD E sz ops bl (⟨false, .bool true, [], false, [], n, n⟩ :: pre) l (upd t d (.bool true)) h n R) (w2 : ¬ (a < b) → WD E sz ops bl (⟨false, .bool false, [], false, [], n, n⟩ :: pre) l (upd t d (.bool false)) h n R) : WD E sz ops bl pre (o :: l) t h n R := by
  obtain ⟨ho, hx, hy, hdd, hd, hg⟩ := G0
  have ho2 := OpOK.case (h := h) (n := n) (c := a < b) (H6 ho hx hy rfl)
  by_cases hc : a < b
  · exact d0 (ho2.1 hc) hdd hd hg (w1 hc)
  · exact d0 (ho2.2 hc) hdd hd hg (w2 hc)
theorem rle {d : Nat} (G0 : o.op = .binOp .leq ty x y ty' ∧ E.eval t x = .int k a ∧ E.eval t y = .int k b ∧ o.dst = some d ∧ Nat.blt d sz = true ∧ guardV ops t o = some true) (w1 : a ≤ b → WR E sz ops l (upd t d (.bool true)) h n R) (w2 : ¬ (a ≤ b) → WR E sz ops l (upd t d (.bool false)) h n R) : WR E sz ops (o :: l) t h n R := by
  obtain ⟨ho, hx, hy, hdd, hd, hg⟩ := G0
  have ho2 := OpOK.case (h := h) (n := n) (c := a ≤ b) (H6 ho hx hy rfl)
  by_cases hc : a ≤ b
  · exact r0 (ho2.1 hc) hdd hd hg (w1 hc)
  · exact r0 (ho2.2 hc) hdd hd hg (w2 hc)
theorem dle {d : Nat} (G0 : o.op = .binOp .leq ty x y ty' ∧ E.eval t x = .int k a ∧ E.eval t y = .int k b ∧ o.dst = some d ∧ Nat.blt d sz = true ∧ guardV ops t o = some true) (w1 : a ≤ b → WD E sz ops bl (⟨false, .bool true, [], false, [], n, n⟩ :: pre) l (upd t d (.bool true)) h n R) (w2 : ¬ (a ≤ b) → WD E sz ops bl (⟨false, .bool false, [], false, [], n, n⟩ :: pre) l (upd t d (.bool false)) h n R) : WD E sz ops bl pre (o :: l) t h n R := by
  obtain ⟨ho, hx, hy, hdd, hd, hg⟩ := G0
  have ho2 := OpOK.case (h := h) (n := n) (c := a ≤ b) (H6 ho hx hy rfl)
  by_cases hc : a ≤ b
  · exact d0 (ho2.1 hc) hdd hd hg (w1 hc)
  · exact d0 (ho2.2 hc) hdd hd hg (w2 hc)
theorem V4 {d : Nat} (G0 : o.op = .binOp .gtr ty x y ty' ∧ E.eval t x = .int k a ∧ E.eval t y = .int k b ∧ o.dst = some d ∧ Nat.blt d sz = true ∧ guardV ops t o = some true) (w1 : a > b → WR E sz ops l (upd t d (.bool true)) h n R) (w2 : ¬ (a > b) → WR E sz ops l (upd t d (.bool false)) h n R) : WR E sz ops (o :: l) t h n R := by
  obtain ⟨ho, hx, hy, hdd, hd, hg⟩ := G0
  have ho2 := OpOK.case (h := h) (n := n) (c := a > b) (H6 ho hx hy rfl)
  by_cases hc : a > b
  · exact r0 (ho2.1 hc) hdd hd hg (w1 hc)
  · exact r0 (ho2.2 hc) hdd hd hg (w2 hc)
theorem dgt {d : Nat} (G0 : o.op = .binOp .gtr ty x y ty' ∧ E.eval t x = .int k a ∧ E.eval t y = .int k b ∧ o.dst = some d ∧ Nat.blt d sz = true ∧ guardV ops t o = some true) (w1 : a > b → WD E sz ops bl (⟨false, .bool true, [], false, [], n, n⟩ :: pre) l (upd t d (.bool true)) h n R) (w2 : ¬ (a > b) → WD E sz ops bl (⟨false, .bool false, [], false, [], n, n⟩ :: pre) l (upd t d (.bool false)) h n R) : WD E sz ops bl pre (o :: l) t h n R := by
  obtain ⟨ho, hx, hy, hdd, hd, hg⟩ := G0
  have ho2 := OpOK.case (h := h) (n := n) (c := a > b) (H6 ho hx hy rfl)
  by_cases hc : a > b
  · exact d0 (ho2.1 hc) hdd hd hg (w1 hc)
  · exact d0 (ho2.2 hc) hdd hd hg (w2 hc)
theorem rge {d : Nat} (G0 : o.op = .binOp .geq ty x y ty' ∧ E.eval t x = .int k a ∧ E.eval t y = .int k b ∧ o.dst = some d ∧ Nat.blt d sz = true ∧ guardV ops t o = some true) (w1 : a ≥ b → WR E sz ops l (upd t d (.bool true)) h n R) (w2 : ¬ (a ≥ b) → WR E sz ops l (upd t d (.bool false)) h n R) : WR E sz ops (o :: l) t h n R := by
  obtain ⟨ho, hx, hy, hdd, hd, hg⟩ := G0
  have ho2 := OpOK.case (h := h) (n := n) (c := a ≥ b) (H6 ho hx hy rfl)
  by_cases hc : a ≥ b
  · exact r0 (ho2.1 hc) hdd hd hg (w1 hc)
  · exact r0 (ho2.2 hc) hdd hd hg (w2 hc)
theorem dge {d : Nat} (G0 : o.op = .binOp .geq ty x y ty' ∧ E.eval t x = .int k a ∧ E.eval t y = .int k b ∧ o.dst = some d ∧ Nat.blt d sz = true ∧ guardV ops t o = some true) (w1 : a ≥ b → WD E sz ops bl (⟨false, .bool true, [], false, [], n, n⟩ :: pre) l (upd t d (.bool true)) h n R) (w2 : ¬ (a ≥ b) → WD E sz ops bl (⟨false, .bool false, [], false, [], n, n⟩ :: pre) l (upd t d (.bool false)) h n R) : WD E sz ops bl pre (o :: l) t h n R := by
  obtain ⟨ho, hx, hy, hdd, hd, hg⟩ := G0
  have ho2 := OpOK.case (h := h) (n := n) (c := a ≥ b) (H6 ho hx hy rfl)
  by_cases hc : a ≥ b
  · exact d0 (ho2.1 hc) hdd hd hg (w1 hc)
  · exact d0 (ho2.2 hc) hdd hd hg (w2 hc)
theorem H5 {d : Nat} (G0 : o.op = .binOp .eql ty x y ty' ∧ E.eval t x = .int k a ∧ E.eval t y = .int k b ∧ o.dst = some d ∧ Nat.blt d sz = true ∧ guardV ops t o = some true) (w1 : a = b → WR E sz ops l (upd t d (.bool true)) h n R) (w2 : ¬ (a = b) → WR E sz ops l (upd t d (.bool false)) h n R) : WR E sz ops (o :: l) t h n R := by
  obtain ⟨ho, hx, hy, hdd, hd, hg⟩ := G0
  have ho2 := OpOK.case (h := h) (n := n) (c := a = b) ((H6 ho hx hy rfl).to (by by_cases e : a = b <;> simp [e]))
  by_cases hc : a = b
  · exact r0 (ho2.1 hc) hdd hd hg (w1 hc)
  · exact r0 (ho2.2 hc) hdd hd hg (w2 hc)
theorem deq {d : Nat} (G0 : o.op = .binOp .eql ty x y ty' ∧ E.eval t x = .int k a ∧ E.eval t y = .int k b ∧ o.dst = some d ∧ Nat.blt d sz = true ∧ guardV ops t o = some true) (w1 : a = b → WD E sz ops bl (⟨false, .bool true, [], false, [], n, n⟩ :: pre) l (upd t d (.bool true)) h n R) (w2 : ¬ (a = b) → WD E sz ops bl (⟨false, .bool false, [], false, [], n, n⟩ :: pre) l (upd t d (.bool false)) h n R) : WD E sz ops bl pre (o :: l) t h n R := by
  obtain ⟨ho, hx, hy, hdd, hd, hg⟩ := G0
  have ho2 := OpOK.case (h := h) (n := n) (c := a = b) ((H6 ho hx hy rfl).to (by by_cases e : a = b <;> simp [e]))
  by_cases hc : a = b
  · exact d0 (ho2.1 hc) hdd hd hg (w1 hc)
  · exact d0 (ho2.2 hc) hdd hd hg (w2 hc)
theorem rne {d : Nat} (G0 : o.op = .binOp .neq ty x y ty' ∧ E.eval t x = .int k a ∧ E.eval t y = .int k b ∧ o.dst = some d ∧ Nat.blt d sz = true ∧ guardV ops t o = some true) (w1 : a ≠ b → WR E sz ops l (upd t d (.bool true)) h n R) (w2 : ¬ (a ≠ b) → WR E sz ops l (upd t d (.bool false)) h n R) : WR E sz ops (o :: l) t h n R := by
  obtain ⟨ho, hx, hy, hdd, hd, hg⟩ := G0
  have ho2 := OpOK.case (h := h) (n := n) (c := a ≠ b) ((H6 ho hx hy rfl).to (by by_cases e : a = b <;> simp [e]))
  by_cases hc : a ≠ b
  · exact r0 (ho2.1 hc) hdd hd hg (w1 hc)
  · exact r0 (ho2.2 hc) hdd hd hg (w2 hc)
theorem dne {d : Nat} (G0 : o.op = .binOp .neq ty x y ty' ∧ E.eval t x = .int k a ∧ E.eval t y = .int k b ∧ o.dst = some d ∧ Nat.blt d sz = true ∧ guardV ops t o = some true) (w1 : a ≠ b → WD E sz ops bl (⟨false, .bool true, [], false, [], n, n⟩ :: pre) l (upd t d (.bool true)) h n R) (w2 : ¬ (a ≠ b) → WD E sz ops bl (⟨false, .bool false, [], false, [], n, n⟩ :: pre) l (upd t d (.bool false)) h n R) : WD E sz ops bl pre (o :: l) t h n R := by
  obtain ⟨ho, hx, hy, hdd, hd, hg⟩ := G0
  have ho2 := OpOK.case (h := h) (n := n) (c := a ≠ b) ((H6 ho hx hy rfl).to (by by_cases e : a = b <;> simp [e]))
  by_cases hc : a ≠ b
  · exact d0 (ho2.1 hc) hdd hd hg (w1 hc)
  · exact d0 (ho2.2 hc) hdd hd hg (w2 hc)
theorem rseq {d : Nat} (G0 : o.op = .binOp .eql ty x y ty' ∧ E.eval t x = .str p ∧ E.eval t y = .str q ∧ o.dst = some d ∧ Nat.blt d sz = true ∧ guardV ops t o = some true) (w1 : p = q → WR E sz ops l (upd t d (.bool true)) h n R) (w2 : ¬ (p = q) → WR E sz ops l (upd t d (.bool false)) h n R) : WR E sz ops (o :: l) t h n R := by
  obtain ⟨ho, hx, hy, hdd, hd, hg⟩ := G0
  have ho2 := OpOK.case (h := h) (n := n) (c := p = q) ((op_str ho hx hy rfl).to (by rw [bytes_eq]))
  by_cases hc : p = q
  · exact r0 (ho2.1 hc) hdd hd hg (w1 hc)
  · exact r0 (ho2.2 hc) hdd hd hg (w2 hc)
theorem dseq {d : Nat} (G0 : o.op = .binOp .eql ty x y ty' ∧ E.eval t x = .str p ∧ E.eval t y = .str q ∧ o.dst = some d ∧ Nat.blt d sz = true ∧ guardV ops t o = some true) (w1 : p = q → WD E sz ops bl (⟨false, .bool true, [], false, [], n, n⟩ :: pre) l (upd t d (.bool true)) h n R) (w2 : ¬ (p = q) → WD E sz ops bl (⟨false, .bool false, [], false, [], n, n⟩ :: pre) l (upd t d (.bool false)) h n R) : WD E sz ops bl pre (o :: l) t h n R := by
  obtain ⟨ho, hx, hy, hdd, hd, hg⟩ := G0
  have ho2 := OpOK.case (h := h) (n := n) (c := p = q) ((op_str ho hx hy rfl).to (by rw [bytes_eq]))
  by_cases hc : p = q
  · exact d0 (ho2.1 hc) hdd hd hg (w1 hc)
  · exact d0 (ho2.2 hc) hdd hd hg (w2 hc)
theorem dslt {d : Nat} (G0 : o.op = .binOp .lss ty x y ty' ∧ E.eval t x = .str p ∧ E.eval t y = .str q ∧ o.dst = some d ∧ Nat.blt d sz = true ∧ guardV ops t o = some true) (w1 : (Op.bytesLess p.toList q.toList) = true → WD E sz ops bl (⟨false, .bool true, [], false, [], n, n⟩ :: pre) l (upd t d (.bool true)) h n R) (w2 : (Op.bytesLess p.toList q.toList) = false → WD E sz ops bl (⟨false, .bool false, [], false, [], n, n⟩ :: pre) l (upd t d (.bool false)) h n R) : WD E sz ops bl pre (o :: l) t h n R := by
  obtain ⟨ho, hx, hy, hdd, hd, hg⟩ := G0
  have ho2 := OpOK.caseB (h := h) (n := n) (c := (Op.bytesLess p.toList q.toList)) (op_str ho hx hy rfl)
  cases hc : (Op.bytesLess p.toList q.toList)
  · exact d0 (ho2.2 hc) hdd hd hg (w2 hc)
  · exact d0 (ho2.1 hc) hdd hd hg (w1 hc)
theorem dsge {d : Nat} (G0 : o.op = .binOp .geq ty x y ty' ∧ E.eval t x = .str p ∧ E.eval t y = .str q ∧ o.dst = some d ∧ Nat.blt d sz = true ∧ guardV ops t o = some true) (w1 : (!Op.bytesLess p.toList q.toList) = true → WD E sz ops bl (⟨false, .bool true, [], false, [], n, n⟩ :: pre) l (upd t d (.bool true)) h n R) (w2 : (!Op.bytesLess p.toList q.toList) = false → WD E sz ops bl (⟨false, .bool false, [], false, [], n, n⟩ :: pre) l (upd t d (.bool false)) h n R) : WD E sz ops bl pre (o :: l) t h n R := by
  obtain ⟨ho, hx, hy, hdd, hd, hg⟩ := G0
  have ho2 := OpOK.caseB (h := h) (n := n) (c := (!Op.bytesLess p.toList q.toList)) (op_str ho hx hy rfl)
  cases hc : (!Op.bytesLess p.toList q.toList)
  · exact d0 (ho2.2 hc) hdd hd hg (w2 hc)
  · exact d0 (ho2.1 hc) hdd hd hg (w1 hc)
theorem rcat (G0 : o.op = .binOp .add ty x y ty' ∧ E.eval t x = .str p ∧ E.eval t y = .str q) (hs : p.size + q.size ≤ 9223372036854775807) {d : Nat} (G1 : o.dst = some d ∧ Nat.blt d sz = true ∧ guardV ops t o = some true) (w : WR E sz ops l (upd t d (.str (p ++ q))) h n R) : WR E sz ops (o :: l) t h n R := have ⟨ho, hx, hy⟩ := G0; have ⟨hdd, hd, hg⟩ := G1; r0 (op_cat ho hx hy hs) hdd hd hg w
theorem D5 {c : Bool} {d : Nat} (G0 : o.op = .unOp .not ty x ∧ E.eval t x = .bool c ∧ o.dst = some d ∧ Nat.blt d sz = true ∧ guardV ops t o = some true) (w : WR E sz ops l (upd t d (.bool (!c))) h n R) : WR E sz ops (o :: l) t h n R := have ⟨ho, hx, hdd, hd, hg⟩ := G0; r0 (op_not ho hx) hdd hd hg w
theorem dnot {c : Bool} {d : Nat} (G0 : o.op = .unOp .not ty x ∧ E.eval t x = .bool c ∧ o.dst = some d ∧ Nat.blt d sz = true ∧ guardV ops t o = some true) (w : WD E sz ops bl (⟨false, .bool (!c), [], false, [], n, n⟩ :: pre) l (upd t d (.bool (!c))) h n R) : WD E sz ops bl pre (o :: l) t h n R := have ⟨ho, hx, hdd, hd, hg⟩ := G0; d0 (op_not ho hx) hdd hd hg w
theorem rbeq {c e : Bool} {d : Nat} (G0 : o.op = .binOp .eql ty x y ty' ∧ E.P.underlying ty = some .bool ∧ E.eval t x = .bool c ∧ E.eval t y = .bool e ∧ o.dst = some d ∧ Nat.blt d sz = true ∧ guardV ops t o = some true) (w : WR E sz ops l (upd t d (.bool (c == e))) h n R) : WR E sz ops (o :: l) t h n R := have ⟨ho, hu, hx, hy, hdd, hd, hg⟩ := G0; r0 ((op_beq ho (by simp) hu hx hy).to (by simp)) hdd hd hg w
theorem rquo (G0 : o.op = .binOp .quo ty x y ty' ∧ E.eval t x = .int k a ∧ E.eval t y = .int k b) (hb : b ≠ 0) {d : Nat} (G1 : o.dst = some d ∧ Nat.blt d sz = true ∧ guardV ops t o = some true) (w : WR E sz ops l (upd t d (.int k (k.wrap (a.tdiv b)))) h n R) : WR E sz ops (o :: l) t h n R := have ⟨ho, hx, hy⟩ := G0; have ⟨hdd, hd, hg⟩ := G1; r0 (op_quo ho hx hy hb) hdd hd hg w
theorem rrem (G0 : o.op = .binOp .rem ty x y ty' ∧ E.eval t x = .int k a ∧ E.eval t y = .int k b) (hb : b ≠ 0) {d : Nat} (G1 : o.dst = some d ∧ Nat.blt d sz = true ∧ guardV ops t o = some true) (w : WR E sz ops l (upd t d (.int k (a.tmod b))) h n R) : WR E sz ops (o :: l) t h n R := have ⟨ho, hx, hy⟩ := G0; have ⟨hdd, hd, hg⟩ := G1; r0 (op_rem ho hx hy hb) hdd hd hg w
theorem drem (G0 : o.op = .binOp .rem ty x y ty' ∧ E.eval t x = .int k a ∧ E.eval t y = .int k b) (hb : b ≠ 0) {d : Nat} (G1 : o.dst = some d ∧ Nat.blt d sz = true ∧ guardV ops t o = some true) (w : WD E sz ops bl (⟨false, .int k (a.tmod b), [], false, [], n, n⟩ :: pre) l (upd t d (.int k (a.tmod b))) h n R) : WD E sz ops bl pre (o :: l) t h n R := have ⟨ho, hx, hy⟩ := G0; have ⟨hdd, hd, hg⟩ := G1; d0 (op_rem ho hx hy hb) hdd hd hg w
theorem rshr {k' : IntKind} (G0 : o.op = .binOp .shr ty x y ty' ∧ E.eval t x = .int k a ∧ E.eval t y = .int k' b) (hb : 0 ≤ b) {d : Nat} (G1 : o.dst = some d ∧ Nat.blt d sz = true ∧ guardV ops t o = some true) (w : WR E sz ops l (upd t d (.int k (a.fdiv (2 ^ (min b.toNat k.bits))))) h n R) : WR E sz ops (o :: l) t h n R := have ⟨ho, hx, hy⟩ := G0; have ⟨hdd, hd, hg⟩ := G1; r0 (op_shr ho hx hy hb) hdd hd hg w
theorem rcv {k' : IntKind} {d : Nat} (G0 : o.op = .convert ty ty' x ∧ E.eval t x = .int k a ∧ (E.P.underlying ty).isSome = true ∧ E.P.underlying ty' = some (.int k') ∧ o.dst = some d ∧ Nat.blt d sz = true ∧ guardV ops t o = some true) (w : WR E sz ops l (upd t d (.int k' (k'.wrap a))) h n R) : WR E sz ops (o :: l) t h n R := have ⟨ho, hx, hs, hu, hdd, hd, hg⟩ := G0; r0 (X5 ho hx hs hu) hdd hd hg w
theorem dcvF (G0 : o.op = .convert ty ty' x ∧ E.eval t x = .int k a ∧ (E.P.underlying ty).isSome = true ∧ E.P.underlying ty' = some (.int .i64)) (h1 : -9223372036854775808 ≤ a) (h2 : a ≤ 9223372036854775807) {d : Nat} (G1 : o.dst = some d ∧ Nat.blt d sz = true ∧ guardV ops t o = some true) (w : WD E sz ops bl (⟨false, .int .i64 a, [], false, [], n, n⟩ :: pre) l (upd t d (.int .i64 a)) h n R) : WD E sz ops bl pre (o :: l) t h n R := have ⟨ho, hx, hs, hu⟩ := G0; have ⟨hdd, hd, hg⟩ := G1; d0 ((X5 ho hx hs hu).to (by rw [G4 h1 h2])) hdd hd hg w
theorem F6 {d : Nat} (G0 : o.op = .nilCheck x ∧ E.eval t x = v ∧ v.nonnil = true ∧ o.dst = some d ∧ Nat.blt d sz = true ∧ guardV ops t o = some true) (w : WR E sz ops l (upd t d (v)) h n R) : WR E sz ops (o :: l) t h n R := have ⟨ho, hx, hn, hdd, hd, hg⟩ := G0; r0 ((Z8 ho (by rw [hx]; exact hn)).to hx) hdd hd hg w
theorem G7 {d : Nat} (G0 : o.op = .nilCheck x ∧ E.eval t x = v ∧ v.nonnil = true ∧ o.dst = some d ∧ Nat.blt d sz = true ∧ guardV ops t o = some true) (w : WD E sz ops bl (⟨false, v, [], false, [], n, n⟩ :: pre) l (upd t d (v)) h n R) : WD E sz ops bl pre (o :: l) t h n R := have ⟨ho, hx, hn, hdd, hd, hg⟩ := G0; d0 ((Z8 ho (by rw [hx]; exact hn)).to hx) hdd hd hg w
theorem T6 {i : Nat} {vs : List V} {d : Nat} (G0 : o.op = .extract x i ∧ E.eval t x = .tup vs ∧ vs[i]? = some v ∧ o.dst = some d ∧ Nat.blt d sz = true ∧ guardV ops t o = some true) (w : WR E sz ops l (upd t d (v)) h n R) : WR E sz ops (o :: l) t h n R := have ⟨ho, hx, hi, hdd, hd, hg⟩ := G0; r0 (W4 ho hx hi) hdd hd hg w
theorem dex {i : Nat} {vs : List V} {d : Nat} (G0 : o.op = .extract x i ∧ E.eval t x = .tup vs ∧ vs[i]? = some v ∧ o.dst = some d ∧ Nat.blt d sz = true ∧ guardV ops t o = some true) (w : WD E sz ops bl (⟨false, v, [], false, [], n, n⟩ :: pre) l (upd t d (v)) h n R) : WD E sz ops bl pre (o :: l) t h n R := have ⟨ho, hx, hi, hdd, hd, hg⟩ := G0; d0 (W4 ho hx hi) hdd hd hg w
theorem rmf {f : FuncId} {caps : Array Operand} {vs : List V} (ho : o.op = .makeFunc (.func f) #[] caps) {d : Nat} (G0 : caps.toList.map (E.eval t) = vs ∧ o.dst = some d ∧ Nat.blt d sz = true ∧ guardV ops t o = some true) (w : WR E sz ops l (upd t d (.clo f vs)) h n R) : WR E sz ops (o :: l) t h n R := have ⟨hv, hdd, hd, hg⟩ := G0; r0 ((op_makeFunc ho).to (by rw [hv])) hdd hd hg w
theorem rls (ho : o.op = .call { callee := .builtin .len, args := #[x], argTypes := #[ty] }) {d : Nat} (G0 : E.eval t x = .str p ∧ E.P.underlying ty = some .string ∧ o.dst = some d ∧ Nat.blt d sz = true ∧ guardV ops t o = some true) (w : WR E sz ops l (upd t d (.int .i64 p.size)) h n R) : WR E sz ops (o :: l) t h n R := have ⟨hx, hu, hdd, hd, hg⟩ := G0; r0 (op_len_str ho hx hu) hdd hd hg w
theorem H0 {m : Nat} (ho : o.op = .call { callee := .builtin .len, args := #[x], argTypes := #[ty] }) (hu : E.P.underlying ty = some (.slice ty')) (hx : lenV (E.eval t x) = some m) {d : Nat} (G0 : o.dst = some d ∧ Nat.blt d sz = true ∧ guardV ops t o = some true) (w : WR E sz ops l (upd t d (.int .i64 m)) h n R) : WR E sz ops (o :: l) t h n R := have ⟨hdd, hd, hg⟩ := G0; r0 (op_len_sl ho hx hu) hdd hd hg w
theorem dll {m : Nat} (ho : o.op = .call { callee := .builtin .len, args := #[x], argTypes := #[ty] }) (hu : E.P.underlying ty = some (.slice ty')) (hx : lenV (E.eval t x) = some m) {d : Nat} (G0 : o.dst = some d ∧ Nat.blt d sz = true ∧ guardV ops t o = some true) (w : WD E sz ops bl (⟨false, .int .i64 m, [], false, [], n, n⟩ :: pre) l (upd t d (.int .i64 m)) h n R) : WD E sz ops bl pre (o :: l) t h n R := have ⟨hdd, hd, hg⟩ := G0; d0 (op_len_sl ho hx hu) hdd hd hg w
theorem rixsK {i : Nat} (G0 : o.op = .index ty x y ∧ E.eval t x = .str p ∧ E.eval t y = .int k a ∧ E.P.underlying ty = some .string) (h0 : 0 ≤ a) (h1 : a < p.size) {d : Nat} (G1 : a.toNat = i ∧ o.dst = some d ∧ Nat.blt d sz = true ∧ guardV ops t o = some true) (w : WR E sz ops l (upd t d (.int .u8 (bt p i))) h n R) : WR E sz ops (o :: l) t h n R := have ⟨ho, hx, hy, hu⟩ := G0; have ⟨hi, hdd, hd, hg⟩ := G1; r0 ((X0 ho hx hy hu h0 h1).to (by rw [hi])) hdd hd hg w
theorem rixs (G0 : o.op = .index ty x y ∧ E.eval t x = .str p ∧ E.eval t y = .int k a ∧ E.P.underlying ty = some .string) (h0 : 0 ≤ a) (h1 : a < p.size) {d : Nat} (G1 : o.dst = some d ∧ Nat.blt d sz = true ∧ guardV ops t o = some true) (w : WR E sz ops l (upd t d (.int .u8 (bt p a.toNat))) h n R) : WR E sz ops (o :: l) t h n R := have ⟨ho, hx, hy, hu⟩ := G0; have ⟨hdd, hd, hg⟩ := G1; r0 (X0 ho hx hy hu h0 h1) hdd hd hg w
theorem C1 {f off s i j m : Nat} {r : Bool} (G0 : o.op = .fieldAddr ty x f ∧ E.eval t x = .ptr i j m ∧ fieldP E.P ty f = some (off, s, r)) (hk : s ≠ 0) {d : Nat} (G1 : o.dst = some d ∧ Nat.blt d sz = true ∧ guardV ops t o = some true) (w : WR E sz ops l (upd t d (.ptr i j (m + off))) h n R) : WR E sz ops (o :: l) t h n R := have ⟨ho, hx, hf⟩ := G0; have ⟨hdd, hd, hg⟩ := G1; r0 (W9 ho hx hf hk) hdd hd hg w
theorem D6 {f off s i j m : Nat} {r : Bool} (G0 : o.op = .fieldAddr ty x f ∧ E.eval t x = .ptr i j m ∧ fieldP E.P ty f = some (off, s, r)) (hk : s ≠ 0) {d : Nat} (G1 : o.dst = some d ∧ Nat.blt d sz = true ∧ guardV ops t o = some true) (w : WD E sz ops bl (⟨false, .ptr i j (m + off), [], false, [], n, n⟩ :: pre) l (upd t d (.ptr i j (m + off))) h n R) : WD E sz ops bl pre (o :: l) t h n R := have ⟨ho, hx, hf⟩ := G0; have ⟨hdd, hd, hg⟩ := G1; d0 (W9 ho hx hf hk) hdd hd hg w
theorem rfai {f off s : Nat} {fr r : Bool} {cs cs' : List T} (G0 : o.op = .fieldAddr ty x f ∧ E.eval t x = .iptr fr cs ∧ fieldP E.P ty f = some (off, s, r)) (hk : s ≠ 0) {d : Nat} (G1 : cs.drop off = cs' ∧ o.dst = some d ∧ Nat.blt d sz = true ∧ guardV ops t o = some true) (w : WR E sz ops l (upd t d (.iptr fr cs')) h n R) : WR E sz ops (o :: l) t h n R := have ⟨ho, hx, hf⟩ := G0; have ⟨hv, hdd, hd, hg⟩ := G1; r0 ((S9 ho hx hf hk).to (by rw [hv])) hdd hd hg w
theorem U6 {f off s : Nat} {fr r : Bool} {cs cs' : List T} (G0 : o.op = .fieldAddr ty x f ∧ E.eval t x = .iptr fr cs ∧ fieldP E.P ty f = some (off, s, r)) (hk : s ≠ 0) {d : Nat} (G1 : cs.drop off = cs' ∧ o.dst = some d ∧ Nat.blt d sz = true ∧ guardV ops t o = some true) (w : WD E sz ops bl (⟨false, .iptr fr cs', [], false, [], n, n⟩ :: pre) l (upd t d (.iptr fr cs')) h n R) : WD E sz ops bl pre (o :: l) t h n R := have ⟨ho, hx, hf⟩ := G0; have ⟨hv, hdd, hd, hg⟩ := G1; d0 ((S9 ho hx hf hk).to (by rw [hv])) hdd hd hg w
theorem rfd {f off s : Nat} {r : Bool} {cs : List V} (G0 : o.op = .field ty x f ∧ E.eval t x = .agg cs ∧ fieldP E.P ty f = some (off, s, r) ∧ partV cs off s r = some v) (hl : off + s ≤ cs.length) {d : Nat} (G1 : o.dst = some d ∧ Nat.blt d sz = true ∧ guardV ops t o = some true) (w : WR E sz ops l (upd t d (v)) h n R) : WR E sz ops (o :: l) t h n R := have ⟨ho, hx, hf, hv⟩ := G0; have ⟨hdd, hd, hg⟩ := G1; r0 (op_field ho hx hf hv hl) hdd hd hg w
theorem L6 {ps : Array (Nat × Operand)} {cs : List V} {d : Nat} (G0 : o.op = .build ty ps ∧ buildV E t ty ps = some cs ∧ o.dst = some d ∧ Nat.blt d sz = true ∧ guardV ops t o = some true) (w : WR E sz ops l (upd t d (.agg cs)) h n R) : WR E sz ops (o :: l) t h n R := have ⟨ho, hb, hdd, hd, hg⟩ := G0; r0 (op_build ho hb) hdd hd hg w
theorem dbd {ps : Array (Nat × Operand)} {cs : List V} {d : Nat} (G0 : o.op = .build ty ps ∧ buildV E t ty ps = some cs ∧ o.dst = some d ∧ Nat.blt d sz = true ∧ guardV ops t o = some true) (w : WD E sz ops bl (⟨false, .agg cs, [], false, [], n, n⟩ :: pre) l (upd t d (.agg cs)) h n R) : WD E sz ops bl pre (o :: l) t h n R := have ⟨ho, hb, hdd, hd, hg⟩ := G0; d0 (op_build ho hb) hdd hd hg w
theorem N0 {fr nn : Bool} {es : List (List T)} {cs : List T} {e : TypeId} {s : Nat} (G0 : o.op = .indexAddr ty x y ∧ E.eval t x = .sl fr nn es ∧ E.eval t y = .int k a ∧ sliceP E.P ty = some (e, s)) (h0 : 0 ≤ a) (hi : es[a.toNat]? = some cs) {d : Nat} (G1 : cs.length = s ∧ o.dst = some d ∧ Nat.blt d sz = true ∧ guardV ops t o = some true) (w : WR E sz ops l (upd t d (.iptr fr cs)) h n R) : WR E sz ops (o :: l) t h n R := have ⟨ho, hx, hy, hs⟩ := G0; have ⟨hcl, hdd, hd, hg⟩ := G1; r0 (Z3 ho hx hy hs h0 hi hcl) hdd hd hg w
theorem K6 {fr nn : Bool} {es : List (List T)} {cs : List T} {e : TypeId} {s : Nat} (G0 : o.op = .indexAddr ty x y ∧ E.eval t x = .sl fr nn es ∧ E.eval t y = .int k a ∧ sliceP E.P ty = some (e, s)) (h0 : 0 ≤ a) (hi : es[a.toNat]? = some cs) {d : Nat} (G1 : cs.length = s ∧ o.dst = some d ∧ Nat.blt d sz = true ∧ guardV ops t o = some true) (w : WD E sz ops bl (⟨false, .iptr fr cs, [], false, [], n, n⟩ :: pre) l (upd t d (.iptr fr cs)) h n R) : WD E sz ops bl pre (o :: l) t h n R := have ⟨ho, hx, hy, hs⟩ := G0; have ⟨hcl, hdd, hd, hg⟩ := G1; d0 (Z3 ho hx hy hs h0 hi hcl) hdd hd hg w
theorem T7 {fr : Bool} {s : Nat} {cs : List T} {vs : List V} (G0 : o.op = .load ty x ∧ E.eval t x = .iptr fr cs ∧ rowP E.P ty = some (true, s)) (hl : s ≤ cs.length) {d : Nat} (G1 : (cs.take s).map (T.toV fr) = vs ∧ o.dst = some d ∧ Nat.blt d sz = true ∧ guardV ops t o = some true) (w : WR E sz ops l (upd t d (.agg vs)) h n R) : WR E sz ops (o :: l) t h n R := have ⟨ho, hx, hr⟩ := G0; have ⟨hv, hdd, hd, hg⟩ := G1; r0 ((W8 ho hx hr hl).to (by rw [hv])) hdd hd hg w
theorem dlir {fr : Bool} {s : Nat} {cs : List T} {vs : List V} (G0 : o.op = .load ty x ∧ E.eval t x = .iptr fr cs ∧ rowP E.P ty = some (true, s)) (hl : s ≤ cs.length) {d : Nat} (G1 : (cs.take s).map (T.toV fr) = vs ∧ o.dst = some d ∧ Nat.blt d sz = true ∧ guardV ops t o = some true) (w : WD E sz ops bl (⟨false, .agg vs, [], false, [], n, n⟩ :: pre) l (upd t d (.agg vs)) h n R) : WD E sz ops bl pre (o :: l) t h n R := have ⟨ho, hx, hr⟩ := G0; have ⟨hv, hdd, hd, hg⟩ := G1; d0 ((W8 ho hx hr hl).to (by rw [hv])) hdd hd hg w
theorem rlic {fr : Bool} {s : Nat} {cs : List T} {u : T} {d : Nat} (G0 : o.op = .load ty x ∧ E.eval t x = .iptr fr cs ∧ rowP E.P ty = some (false, s) ∧ cs[0]? = some u ∧ u.toV fr = v ∧ o.dst = some d ∧ Nat.blt d sz = true ∧ guardV ops t o = some true) (w : WR E sz ops l (upd t d (v)) h n R) : WR E sz ops (o :: l) t h n R := have ⟨ho, hx, hr, hl, hv, hdd, hd, hg⟩ := G0; r0 ((U8 ho hx hr hl).to hv) hdd hd hg w
theorem N1 {fr : Bool} {s : Nat} {cs : List T} {u : T} {d : Nat} (G0 : o.op = .load ty x ∧ E.eval t x = .iptr fr cs ∧ rowP E.P ty = some (false, s) ∧ cs[0]? = some u ∧ u.toV fr = v ∧ o.dst = some d ∧ Nat.blt d sz = true ∧ guardV ops t o = some true) (w : WD E sz ops bl (⟨false, v, [], false, [], n, n⟩ :: pre) l (upd t d (v)) h n R) : WD E sz ops bl pre (o :: l) t h n R := have ⟨ho, hx, hr, hl, hv, hdd, hd, hg⟩ := G0; d0 ((U8 ho hx hr hl).to hv) hdd hd hg w
theorem rnil {c : Bool} {e : TypeId} {i j : Nat} {d : Nat} (G0 : o.op = .binOp .eql ty x (.const (.slice none i j)) ty' ∧ E.P.underlying ty = some (.slice e) ∧ nilV (E.eval t x) = some c ∧ o.dst = some d ∧ Nat.blt d sz = true ∧ guardV ops t o = some true) (w : WR E sz ops l (upd t d (.bool c)) h n R) : WR E sz ops (o :: l) t h n R := have ⟨ho, hu, hx, hdd, hd, hg⟩ := G0; r0 ((op_isnil ho (by simp) hu hx).to (by simp)) hdd hd hg w
theorem dSneq {cs ds : List V} {c : Bool} (G0 : o.op = .binOp .neq ty x y ty' ∧ E.eval t x = .agg cs ∧ E.eval t y = .agg ds) (hgd : E.P.eqGuardType E.P.depth ty = false) (hr : eqV E.P 10000 ty (.agg cs) (.agg ds) = some c) {d : Nat} (G1 : o.dst = some d ∧ Nat.blt d sz = true ∧ guardV ops t o = some true) (w1 : (!c) = true → WD E sz ops bl (⟨false, .bool true, [], false, [], n, n⟩ :: pre) l (upd t d (.bool true)) h n R) (w2 : (!c) = false → WD E sz ops bl (⟨false, .bool false, [], false, [], n, n⟩ :: pre) l (upd t d (.bool false)) h n R) : WD E sz ops bl pre (o :: l) t h n R := by
  obtain ⟨ho, hx, hy⟩ := G0
  obtain ⟨hdd, hd, hg⟩ := G1
  have ho2 := OpOK.caseB (h := h) (n := n) (c := (!c)) ((op_structeq ho (by simp) hx hy hgd hr).to (by simp))
  cases hc : (!c)
  · exact d0 (ho2.2 hc) hdd hd hg (w2 hc)
  · exact d0 (ho2.1 hc) hdd hd hg (w1 hc)
theorem F9 {i j m s : Nat} {B : Blk} {cs vs : List V} (G0 : o.op = .load ty x ∧ E.eval t x = .ptr i j m) (hb : h i = some B) (hi : B.es[j]? = some cs) (hr : rowP E.P ty = some (true, s)) (hl : m + s ≤ cs.length) (hv : (cs.drop m).take s = vs) {d : Nat} (G1 : o.dst = some d ∧ Nat.blt d sz = true ∧ guardV ops t o = some true) (w : WR E sz ops l (upd t d (.agg vs)) h n R) : WR E sz ops (o :: l) t h n R := have ⟨ho, hx⟩ := G0; have ⟨hdd, hd, hg⟩ := G1; r0 ((Z0 ho hx hb hi hr hl).to (by rw [hv])) hdd hd hg w
theorem L8 {i j m s : Nat} {B : Blk} {cs vs : List V} (G0 : o.op = .load ty x ∧ E.eval t x = .ptr i j m) (hb : h i = some B) (hi : B.es[j]? = some cs) (hr : rowP E.P ty = some (true, s)) (hl : m + s ≤ cs.length) {d : Nat} (G1 : (cs.drop m).take s = vs ∧ o.dst = some d ∧ Nat.blt d sz = true ∧ guardV ops t o = some true) (w : WD E sz ops bl (⟨false, .agg vs, [i], false, [], n, n⟩ :: pre) l (upd t d (.agg vs)) h n R) : WD E sz ops bl pre (o :: l) t h n R := have ⟨ho, hx⟩ := G0; have ⟨hv, hdd, hd, hg⟩ := G1; d0 ((Z0 ho hx hb hi hr hl).to (by rw [hv])) hdd hd hg w
theorem C5 {i j m s : Nat} {B : Blk} {cs : List V} (G0 : o.op = .load ty x ∧ E.eval t x = .ptr i j m) (hb : h i = some B) (hi : B.es[j]? = some cs) {d : Nat} (G1 : rowP E.P ty = some (false, s) ∧ cs[m]? = some v ∧ o.dst = some d ∧ Nat.blt d sz = true ∧ guardV ops t o = some true) (w : WR E sz ops l (upd t d (v)) h n R) : WR E sz ops (o :: l) t h n R := have ⟨ho, hx⟩ := G0; have ⟨hr, hl, hdd, hd, hg⟩ := G1; r0 (W7 ho hx hb hi hr hl) hdd hd hg w
theorem E1 {i j m s : Nat} {B : Blk} {cs : List V} (G0 : o.op = .load ty x ∧ E.eval t x = .ptr i j m) (hb : h i = some B) (hi : B.es[j]? = some cs) {d : Nat} (G1 : rowP E.P ty = some (false, s) ∧ cs[m]? = some v ∧ o.dst = some d ∧ Nat.blt d sz = true ∧ guardV ops t o = some true) (w : WD E sz ops bl (⟨false, v, [i], false, [], n, n⟩ :: pre) l (upd t d (v)) h n R) : WD E sz ops bl pre (o :: l) t h n R := have ⟨ho, hx⟩ := G0; have ⟨hr, hl, hdd, hd, hg⟩ := G1; d0 (W7 ho hx hb hi hr hl) hdd hd hg w
theorem D4 {i j m s : Nat} {B : Blk} {cs ys : List V} {r : Bool} {u : V} (G0 : o.op = .store ty x y ∧ E.eval t x = .ptr i j m ∧ E.eval t y = u) (hb : h i = some B) (hi : B.es[j]? = some cs) (hr : rowP E.P ty = some (r, s)) (hk : u.known = true) (hkl : u.cells.length = s) (hc : u.cells.all V.cell = true) (hl : m + s ≤ cs.length) (hs : splice cs m u.cells = ys) (G1 : o.dst = none ∧ guardV ops t o = some true) (w : WR E sz ops l t (app [(i, some { B with es := B.es.set j ys })] h) n R) : WR E sz ops (o :: l) t h n R := have ⟨ho, hx, hy⟩ := G0; have ⟨hdd, hg⟩ := G1; rOp (op_st ho hx hy hb hi hr hk hkl hc hl hs) (by rw [hdd]; rfl) hg (Nat.le_refl _) (fun h => by simp at h) (by rw [hdd]; exact w)
theorem dst {i j m s : Nat} {B : Blk} {cs ys : List V} {r : Bool} {u : V} (ho : o.op = .store ty x y) (hx : E.eval t x = .ptr i j m) (hy : E.eval t y = u) (hb : h i = some B) (hi : B.es[j]? = some cs) (hr : rowP E.P ty = some (r, s)) (hk : u.known = true) (hkl : u.cells.length = s) (hc : u.cells.all V.cell = true) (hl : m + s ≤ cs.length) (hs : splice cs m u.cells = ys) (hdd : o.dst = none) (hg : guardV ops t o = some true) (w : WD E sz ops bl (⟨false, .unk, [i], false, [(i, some { B with es := B.es.set j ys })], n, n⟩ :: pre) l t (app [(i, some { B with es := B.es.set j ys })] h) n R) : WD E sz ops bl pre (o :: l) t h n R := dOp (op_st ho hx hy hb hi hr hk hkl hc hl hs) (by rw [hdd]; rfl) hg (Nat.le_refl _) (fun h => by simp at h) (by rw [hdd]; exact w)
theorem H3 {zs : List V} {d : Nat} (G0 : o.op = .alloc ty ∧ zeroV E.P ty = some zs ∧ zs.all V.cell = true ∧ o.dst = some d ∧ Nat.blt d sz = true ∧ guardV ops t o = some true) (w : WR E sz ops l (upd t d (.ptr n 0 0)) (app [(n, some ⟨[zs], zs.length, ty⟩)] h) (n + 1) R) : WR E sz ops (o :: l) t h n R := have ⟨ho, hz, hc, hdd, hd, hg⟩ := G0; rOpD (op_alloc ho hz hc) hdd hd hg (by omega) (fun h => by simp at h) w
theorem dal {zs : List V} {d : Nat} (G0 : o.op = .alloc ty ∧ zeroV E.P ty = some zs ∧ zs.all V.cell = true ∧ o.dst = some d ∧ Nat.blt d sz = true ∧ guardV ops t o = some true) (w : WD E sz ops bl (⟨false, .ptr n 0 0, [], false, [(n, some ⟨[zs], zs.length, ty⟩)], n, n + 1⟩ :: pre) l (upd t d (.ptr n 0 0)) (app [(n, some ⟨[zs], zs.length, ty⟩)] h) (n + 1) R) : WD E sz ops bl pre (o :: l) t h n R := have ⟨ho, hz, hc, hdd, hd, hg⟩ := G0; dOpD (op_alloc ho hz hc) hdd hd hg (by omega) (fun h => by simp at h) w
theorem L7 {u : V} (G0 : o.op = .box ty x ∧ E.eval t x = u ∧ u.known = true) (hc : u.cells.all V.cell = true) {d : Nat} (G1 : o.dst = some d ∧ Nat.blt d sz = true ∧ guardV ops t o = some true) (w : WR E sz ops l (upd t d (.ptr n 0 0)) (app [(n, some ⟨[u.cells], u.cells.length, ty⟩)] h) (n + 1) R) : WR E sz ops (o :: l) t h n R := have ⟨ho, hx, hk⟩ := G0; have ⟨hdd, hd, hg⟩ := G1; rOpD (by subst hx; exact op_box ho hk hc) hdd hd hg (by omega) (fun h => by simp at h) w
theorem S8 {m s : Nat} {ps : Array (Nat × Operand)} {zs : List V} {es : List (List V)} {e : TypeId} (G0 : o.op = .buildSlice ty m ps ∧ sliceP E.P ty = some (e, s) ∧ zeroV E.P e = some zs ∧ zs.length = s) (h0 : s ≠ 0) (hb : m * s ≤ 16777216) (hl : litV E t s (List.replicate m zs) ps.toList = some es) (hc : (es.all fun x => x.all V.cell) = true) {d : Nat} (G1 : o.dst = some d ∧ Nat.blt d sz = true ∧ guardV ops t o = some true) (w : WR E sz ops l (upd t d (.view n 0 m)) (app [(n, some ⟨es, s, e⟩)] h) (n + 1) R) : WR E sz ops (o :: l) t h n R := have ⟨ho, hs, hz, hzs⟩ := G0; have ⟨hdd, hd, hg⟩ := G1; rOpD (U9 ho hs hz hzs h0 hb hl hc) hdd hd hg (by omega) (fun h => by simp at h) w
theorem dbs {m s : Nat} {ps : Array (Nat × Operand)} {zs : List V} {es : List (List V)} {e : TypeId} (G0 : o.op = .buildSlice ty m ps ∧ sliceP E.P ty = some (e, s) ∧ zeroV E.P e = some zs ∧ zs.length = s) (h0 : s ≠ 0) (hb : m * s ≤ 16777216) (hl : litV E t s (List.replicate m zs) ps.toList = some es) (hc : (es.all fun x => x.all V.cell) = true) {d : Nat} (G1 : o.dst = some d ∧ Nat.blt d sz = true ∧ guardV ops t o = some true) (w : WD E sz ops bl (⟨false, .view n 0 m, [], false, [(n, some ⟨es, s, e⟩)], n, n + 1⟩ :: pre) l (upd t d (.view n 0 m)) (app [(n, some ⟨es, s, e⟩)] h) (n + 1) R) : WD E sz ops bl pre (o :: l) t h n R := have ⟨ho, hs, hz, hzs⟩ := G0; have ⟨hdd, hd, hg⟩ := G1; dOpD (U9 ho hs hz hzs h0 hb hl hc) hdd hd hg (by omega) (fun h => by simp at h) w
theorem rap {s s' i j m : Nat} {B : Blk} {es : List (List V)} {e : TypeId} (ho : o.op = .call { callee := .builtin .append, args := #[x, y], argTypes := #[ty, ty'] }) (hx : E.eval t x = .view i j m) (hb : h i = some B) (G0 : B.sz = s ∧ B.ty = e) (hfull : j + m = B.es.length) (G1 : elemP E.P ty = some (e, s, s') ∧ srcP E.P ty' = true) (h0 : s ≠ 0) (hy : srcV h (E.eval t y) = some es) (hyz : ∀ c ∈ es, c.length = s) (hbd : (m + es.length) * s' ≤ 140737488355328) (hl : m + es.length ≤ 9223372036854775807) {d : Nat} (G2 : o.dst = some d ∧ Nat.blt d sz = true ∧ guardV ops t o = some true) (w : WR E sz ops l (upd t d (.view n 0 (m + es.length))) (app [(i, none), (n, some ⟨B.es.drop j ++ es, s, e⟩)] h) (n + 1) R) : WR E sz ops (o :: l) t h n R := have ⟨hbz, hbt⟩ := G0; have ⟨hs, htx⟩ := G1; have ⟨hdd, hd, hg⟩ := G2; rOpD (T3 ho hx hb hbz hbt hfull hs htx h0 hy hyz hbd hl) hdd hd hg (by omega) (fun h => by simp at h) w
theorem dap {s s' i j m : Nat} {B : Blk} {es : List (List V)} {e : TypeId} (ho : o.op = .call { callee := .builtin .append, args := #[x, y], argTypes := #[ty, ty'] }) (hx : E.eval t x = .view i j m) (hb : h i = some B) (G0 : B.sz = s ∧ B.ty = e) (hfull : j + m = B.es.length) (G1 : elemP E.P ty = some (e, s, s') ∧ srcP E.P ty' = true) (h0 : s ≠ 0) (hy : srcV h (E.eval t y) = some es) (hyz : ∀ c ∈ es, c.length = s) (hbd : (m + es.length) * s' ≤ 140737488355328) (hl : m + es.length ≤ 9223372036854775807) {d : Nat} (G2 : o.dst = some d ∧ Nat.blt d sz = true ∧ guardV ops t o = some true) (w : WD E sz ops bl (⟨false, .view n 0 (m + es.length), (i :: srcIds (E.eval t y)), false, [(i, none), (n, some ⟨B.es.drop j ++ es, s, e⟩)], n, n + 1⟩ :: pre) l (upd t d (.view n 0 (m + es.length))) (app [(i, none), (n, some ⟨B.es.drop j ++ es, s, e⟩)] h) (n + 1) R) : WD E sz ops bl pre (o :: l) t h n R := have ⟨hbz, hbt⟩ := G0; have ⟨hs, htx⟩ := G1; have ⟨hdd, hd, hg⟩ := G2; dOpD (T3 ho hx hb hbz hbt hfull hs htx h0 hy hyz hbd hl) hdd hd hg (by omega) (fun h => by simp at h) w
theorem ran {s s' : Nat} {es : List (List V)} {e : TypeId} (ho : o.op = .call { callee := .builtin .append, args := #[x, y], argTypes := #[ty, ty'] }) (G0 : E.eval t x = .nsl ∧ elemP E.P ty = some (e, s, s') ∧ srcP E.P ty' = true) (h0 : s ≠ 0) (hy : srcV h (E.eval t y) = some es) (hyz : ∀ c ∈ es, c.length = s) (hne : 0 < es.length) (hbd : es.length * s' ≤ 140737488355328) (hl : es.length ≤ 9223372036854775807) {d : Nat} (G1 : o.dst = some d ∧ Nat.blt d sz = true ∧ guardV ops t o = some true) (w : WR E sz ops l (upd t d (.view n 0 es.length)) (app [(n, some ⟨es, s, e⟩)] h) (n + 1) R) : WR E sz ops (o :: l) t h n R := have ⟨hx, hs, htx⟩ := G0; have ⟨hdd, hd, hg⟩ := G1; rOpD (V0 ho hx hs htx h0 hy hyz hne hbd hl) hdd hd hg (by omega) (fun h => by simp at h) w
theorem dan {s s' : Nat} {es : List (List V)} {e : TypeId} (ho : o.op = .call { callee := .builtin .append, args := #[x, y], argTypes := #[ty, ty'] }) (G0 : E.eval t x = .nsl ∧ elemP E.P ty = some (e, s, s') ∧ srcP E.P ty' = true) (h0 : s ≠ 0) (hy : srcV h (E.eval t y) = some es) (hyz : ∀ c ∈ es, c.length = s) (hne : 0 < es.length) (hbd : es.length * s' ≤ 140737488355328) (hl : es.length ≤ 9223372036854775807) {d : Nat} (G1 : o.dst = some d ∧ Nat.blt d sz = true ∧ guardV ops t o = some true) (w : WD E sz ops bl (⟨false, .view n 0 es.length, (srcIds (E.eval t y)), false, [(n, some ⟨es, s, e⟩)], n, n + 1⟩ :: pre) l (upd t d (.view n 0 es.length)) (app [(n, some ⟨es, s, e⟩)] h) (n + 1) R) : WD E sz ops bl pre (o :: l) t h n R := have ⟨hx, hs, htx⟩ := G0; have ⟨hdd, hd, hg⟩ := G1; dOpD (V0 ho hx hs htx h0 hy hyz hne hbd hl) hdd hd hg (by omega) (fun h => by simp at h) w
theorem rmk {k' : IntKind} {m s s' : Nat} {zs : List V} {e : TypeId} (G0 : o.op = .makeSlice ty x y ∧ E.eval t x = .int k m ∧ E.eval t y = .int k' m ∧ elemP E.P ty = some (e, s, s') ∧ zeroV E.P e = some zs ∧ zs.all V.cell = true) (h0 : s ≠ 0) (hb : s' * m ≤ 281474976710656) (hl : m ≤ 9223372036854775807) {d : Nat} (G1 : o.dst = some d ∧ Nat.blt d sz = true ∧ guardV ops t o = some true) (w : WR E sz ops l (upd t d (.view n 0 m)) (app [(n, some ⟨List.replicate m zs, s, e⟩)] h) (n + 1) R) : WR E sz ops (o :: l) t h n R := have ⟨ho, hx, hy, hs, hz, hc⟩ := G0; have ⟨hdd, hd, hg⟩ := G1; rOpD (op_make ho hx hy hs hz hc h0 hb hl) hdd hd hg (by omega) (fun h => by simp at h) w
theorem rsln {lo hi : Option Operand} {e : TypeId} {s : Nat} {d : Nat} (G0 : o.op = .slice ty x lo hi none ∧ E.eval t x = .nsl ∧ sliceP E.P ty = some (e, s) ∧ bndV E t lo 0 = some 0 ∧ bndV E t hi 0 = some 0 ∧ o.dst = some d ∧ Nat.blt d sz = true ∧ guardV ops t o = some true) (w : WR E sz ops l (upd t d (.unk)) h n R) : WR E sz ops (o :: l) t h n R := have ⟨ho, hx, hs, hl, hr, hdd, hd, hg⟩ := G0; r0 (op_slice_nsl ho hx hs hl hr) hdd hd hg w
theorem rx2 {tys : Array TypeId} {f : FuncId} {r : Int} (hrun : ∀ w, (callFunc f #[.string p, .string q]).run E.P w = .ok (.value (.int k r)) w) (ho : o.op = .call { callee := .value z, args := #[x, y], argTypes := tys }) {d : Nat} (G0 : E.eval t z = .clo f [] ∧ E.eval t x = .str p ∧ E.eval t y = .str q ∧ o.dst = some d ∧ Nat.blt d sz = true ∧ guardV ops t o = some true) (w : WR E sz ops l (upd t d (.int k r)) h n R) : WR E sz ops (o :: l) t h n R := have ⟨hc, hx, hy, hdd, hd, hg⟩ := G0; r0 (op_ext2 hrun ho hc hx hy) hdd hd hg w
theorem res {i m : Nat} {B : Blk} {kv vv u : V} (ho : o.op = .entryStore ty x y z) (hx : E.eval t x = .map i) (hy : E.eval t y = .int .i64 m) (hz : E.eval t z = u) (hb : h i = some B) (hi : B.es[m]? = some [kv, vv]) (hdd : o.dst = none) (hg : guardV ops t o = some true) (w : WR E sz ops l t (app [(i, some { B with es := B.es.set m [kv, u] })] h) n R) : WR E sz ops (o :: l) t h n R := rOp (op_entryStore ho hx hy hz hb hi) (by rw [hdd]; rfl) hg (Nat.le_refl _) (fun h => by simp at h) (by rw [hdd]; exact w)
theorem rsg {e : TypeId} {es : List (List V)} {bs : List Int} (G0 : o.op = .convert ty ty' x ∧ E.P.underlying ty = some (.slice e) ∧ E.P.underlying e = some (.int .u8) ∧ E.P.underlying ty' = some .string) (hy : srcV h (E.eval t x) = some es) (hns : ∀ s, E.eval t x ≠ .str s) (hb : es = bs.map fun b => [.int .u8 b]) {d : Nat} (G1 : o.dst = some d ∧ Nat.blt d sz = true ∧ guardV ops t o = some true) (w : WR E sz ops l (upd t d (.str (strOf bs))) h n R) : WR E sz ops (o :: l) t h n R := have ⟨ho, hsr, he, hds⟩ := G0; have ⟨hdd, hd, hg⟩ := G1; r0 (op_string ho hsr he hds hy hns hb) hdd hd hg w
theorem T8 {e : TypeId} {i j m s : Nat} {B : Blk} (G0 : o.op = .indexAddr ty x y ∧ E.eval t x = .view i j m ∧ E.eval t y = .int k a ∧ sliceP E.P ty = some (e, s)) (hb : h i = some B) (hbz : B.sz = s) (h0 : 0 ≤ a) (h1 : a < m) {d : Nat} (G1 : o.dst = some d ∧ Nat.blt d sz = true ∧ guardV ops t o = some true) (w : WR E sz ops l (upd t d (.ptr i (j + a.toNat) 0)) h n R) : WR E sz ops (o :: l) t h n R := have ⟨ho, hx, hy, hs⟩ := G0; have ⟨hdd, hd, hg⟩ := G1; r0 (B9 ho hx hy hs hb hbz h0 h1) hdd hd hg w
theorem dixv {e : TypeId} {i j m s : Nat} {B : Blk} (G0 : o.op = .indexAddr ty x y ∧ E.eval t x = .view i j m ∧ E.eval t y = .int k a ∧ sliceP E.P ty = some (e, s)) (hb : h i = some B) (hbz : B.sz = s) (h0 : 0 ≤ a) (h1 : a < m) {d : Nat} (G1 : o.dst = some d ∧ Nat.blt d sz = true ∧ guardV ops t o = some true) (w : WD E sz ops bl (⟨false, .ptr i (j + a.toNat) 0, [i], false, [], n, n⟩ :: pre) l (upd t d (.ptr i (j + a.toNat) 0)) h n R) : WD E sz ops bl pre (o :: l) t h n R := have ⟨ho, hx, hy, hs⟩ := G0; have ⟨hdd, hd, hg⟩ := G1; d0 (B9 ho hx hy hs hb hbz h0 h1) hdd hd hg w
theorem rslv {lo hi : Option Operand} {e : TypeId} {i j m s : Nat} {B : Blk} (G0 : o.op = .slice ty x lo hi none ∧ E.eval t x = .view i j m ∧ sliceP E.P ty = some (e, s)) (hb : h i = some B) (G1 : B.sz = s ∧ bndV E t lo 0 = some a ∧ bndV E t hi m = some b) (h0 : 0 ≤ a) (h1 : a ≤ b) (h2 : b ≤ m) {d : Nat} (G2 : o.dst = some d ∧ Nat.blt d sz = true ∧ guardV ops t o = some true) (w : WR E sz ops l (upd t d (.view i (j + a.toNat) (b.toNat - a.toNat))) h n R) : WR E sz ops (o :: l) t h n R := have ⟨ho, hx, hs⟩ := G0; have ⟨hbz, hl, hr⟩ := G1; have ⟨hdd, hd, hg⟩ := G2; r0 (N7 ho hx hs hb hbz hl hr h0 h1 h2) hdd hd hg w
theorem dslv {lo hi : Option Operand} {e : TypeId} {i j m s : Nat} {B : Blk} (G0 : o.op = .slice ty x lo hi none ∧ E.eval t x = .view i j m ∧ sliceP E.P ty = some (e, s)) (hb : h i = some B) (G1 : B.sz = s ∧ bndV E t lo 0 = some a ∧ bndV E t hi m = some b) (h0 : 0 ≤ a) (h1 : a ≤ b) (h2 : b ≤ m) {d : Nat} (G2 : o.dst = some d ∧ Nat.blt d sz = true ∧ guardV ops t o = some true) (w : WD E sz ops bl (⟨false, .view i (j + a.toNat) (b.toNat - a.toNat), [i], false, [], n, n⟩ :: pre) l (upd t d (.view i (j + a.toNat) (b.toNat - a.toNat))) h n R) : WD E sz ops bl pre (o :: l) t h n R := have ⟨ho, hx, hs⟩ := G0; have ⟨hbz, hl, hr⟩ := G1; have ⟨hdd, hd, hg⟩ := G2; d0 (N7 ho hx hs hb hbz hl hr h0 h1 h2) hdd hd hg w
theorem rexB {c : Bool} {i : Nat} {vs : List V} {d : Nat} (G0 : o.op = .extract x i ∧ E.eval t x = .tup vs ∧ vs[i]? = some (.bool c) ∧ o.dst = some d ∧ Nat.blt d sz = true ∧ guardV ops t o = some true) (w1 : c = true → WR E sz ops l (upd t d (.bool true)) h n R) (w2 : c = false → WR E sz ops l (upd t d (.bool false)) h n R) : WR E sz ops (o :: l) t h n R := by
  obtain ⟨ho, hx, hi, hdd, hd, hg⟩ := G0
  have ho2 := OpOK.caseB (h := h) (n := n) (c := c) (W4 ho hx hi)
  cases hc : c
  · exact r0 (ho2.2 hc) hdd hd hg (w2 hc)
  · exact r0 (ho2.1 hc) hdd hd hg (w1 hc)
theorem rmax {tys : Array TypeId} (ho : o.op = .call { callee := .builtin .max, args := #[x, y], argTypes := tys }) {d : Nat} (G0 : E.eval t x = .int k a ∧ E.eval t y = .int k b ∧ o.dst = some d ∧ Nat.blt d sz = true ∧ guardV ops t o = some true) (w : WR E sz ops l (upd t d (.int k (max a b))) h n R) : WR E sz ops (o :: l) t h n R := have ⟨hx, hy, hdd, hd, hg⟩ := G0; r0 (op_max ho hx hy) hdd hd hg w
theorem rmin {tys : Array TypeId} (ho : o.op = .call { callee := .builtin .min, args := #[x, y], argTypes := tys }) {d : Nat} (G0 : E.eval t x = .int k a ∧ E.eval t y = .int k b ∧ o.dst = some d ∧ Nat.blt d sz = true ∧ guardV ops t o = some true) (w : WR E sz ops l (upd t d (.int k (min a b))) h n R) : WR E sz ops (o :: l) t h n R := have ⟨hx, hy, hdd, hd, hg⟩ := G0; r0 (op_min ho hx hy) hdd hd hg w
theorem AB {tys : Array TypeId} {f : FuncId} {args : Array Operand} {az rs : List A} (hpure : Pure E f az rs) (ho : o.op = .call { callee := .value z, args := args, argTypes := tys }) {d : Nat} (G0 : E.eval t z = .clo f [] ∧ dataL false (args.toList.map (E.eval t)) = some az ∧ o.dst = some d ∧ Nat.blt d sz = true ∧ guardV ops t o = some true) (w : WR E sz ops l (upd t d (retV true rs)) h n R) : WR E sz ops (o :: l) t h n R := have ⟨hc, hs, hdd, hd, hg⟩ := G0; r0 (X9 ho hc hs hpure) hdd hd hg w
theorem J5 {tys : Array TypeId} {f : FuncId} {args : Array Operand} {az rs : List A} {vs : List V} (ids : List Nat) (hpure : Pure E f az rs) (ho : o.op = .call { callee := .value z, args := args, argTypes := tys }) (G0 : E.eval t z = .clo f [] ∧ args.toList.map (E.eval t) = vs) (hs : SnapL h ids false vs az) {d : Nat} (hdd : o.dst = some d) (hd : Nat.blt d sz = true) (hg : guardV ops t o = some true) (w : WR E sz ops l (upd t d (retV true rs)) h n R) : WR E sz ops (o :: l) t h n R := have ⟨hc, hv⟩ := G0; r0 (BK ho hc hv hs hpure) hdd hd hg w
theorem rclSP {tys : Array TypeId} {f : FuncId} {args : Array Operand} {az : List A} {vs : List V} {c : Prop} [Decidable c] (ids : List Nat) (hpure : Pure E f az [.one (.bool (decide c))]) (ho : o.op = .call { callee := .value z, args := args, argTypes := tys }) (G0 : E.eval t z = .clo f [] ∧ args.toList.map (E.eval t) = vs) (hs : SnapL h ids false vs az) {d : Nat} (hdd : o.dst = some d) (hd : Nat.blt d sz = true) (hg : guardV ops t o = some true) (w1 : c → WR E sz ops l (upd t d (.bool true)) h n R) (w2 : ¬ c → WR E sz ops l (upd t d (.bool false)) h n R) : WR E sz ops (o :: l) t h n R := by
  obtain ⟨hc, hv⟩ := G0
  have ho2 := OpOK.case (c := c) (h := h) (n := n) (BK ho hc hv hs hpure)
  by_cases hc2 : c
  · exact r0 (ho2.1 hc2) hdd hd hg (w1 hc2)
  · exact r0 (ho2.2 hc2) hdd hd hg (w2 hc2)
theorem F3 {tys : Array TypeId} {f : FuncId} {args : Array Operand} {az : List A} {c : Prop} [Decidable c] (hpure : Pure E f az [.one (.bool (decide c))]) (ho : o.op = .call { callee := .value z, args := args, argTypes := tys }) {d : Nat} (G0 : E.eval t z = .clo f [] ∧ dataL false (args.toList.map (E.eval t)) = some az ∧ o.dst = some d ∧ Nat.blt d sz = true ∧ guardV ops t o = some true) (w1 : c → WR E sz ops l (upd t d (.bool true)) h n R) (w2 : ¬ c → WR E sz ops l (upd t d (.bool false)) h n R) : WR E sz ops (o :: l) t h n R := by
  obtain ⟨hc, hs, hdd, hd, hg⟩ := G0
  have ho2 := OpOK.case (c := c) (h := h) (n := n) (X9 ho hc hs hpure)
  by_cases hc2 : c
  · exact r0 (ho2.1 hc2) hdd hd hg (w1 hc2)
  · exact r0 (ho2.2 hc2) hdd hd hg (w2 hc2)
theorem I9 {tys : Array TypeId} {f : FuncId} {args : Array Operand} {caps vs : List V} {wr : List (Nat × Option Blk)} {n1 : Nat} (hop : Open E f vs h n v wr n1) (ho : o.op = .call { callee := .value z, args := args, argTypes := tys }) (hc : E.eval t z = .clo f caps) (hv : args.toList.map (E.eval t) ++ caps = vs) {d : Nat} (hdd : o.dst = some d) (hd : Nat.blt d sz = true) (hg : guardV ops t o = some true) (w : WR E sz ops l (upd t d v) (app wr h) n1 R) : WR E sz ops (o :: l) t h n R := rOpD (op_open ho hc (by rw [hv]; exact hop)) hdd hd hg hop.le (fun _ h => by simp at h) w
theorem dcl {tys : Array TypeId} {f : FuncId} {args : Array Operand} {az rs : List A} (hpure : Pure E f az rs) (ho : o.op = .call { callee := .value z, args := args, argTypes := tys }) {d : Nat} (G0 : E.eval t z = .clo f [] ∧ dataL false (args.toList.map (E.eval t)) = some az ∧ o.dst = some d ∧ Nat.blt d sz = true ∧ guardV ops t o = some true) (w : WD E sz ops bl (⟨false, retV true rs, [], false, [], n, n⟩ :: pre) l (upd t d (retV true rs)) h n R) : WD E sz ops bl pre (o :: l) t h n R := have ⟨hc, hs, hdd, hd, hg⟩ := G0; d0 (X9 ho hc hs hpure) hdd hd hg w
theorem O8 {tys : Array TypeId} {f : FuncId} {args : Array Operand} {az rs : List A} {vs : List V} (ids : List Nat) (hpure : Pure E f az rs) (ho : o.op = .call { callee := .value z, args := args, argTypes := tys }) (G0 : E.eval t z = .clo f [] ∧ args.toList.map (E.eval t) = vs) (hs : SnapL h ids false vs az) {d : Nat} (hdd : o.dst = some d) (hd : Nat.blt d sz = true) (hg : guardV ops t o = some true) (w : WD E sz ops bl (⟨false, retV true rs, ids, false, [], n, n⟩ :: pre) l (upd t d (retV true rs)) h n R) : WD E sz ops bl pre (o :: l) t h n R := have ⟨hc, hv⟩ := G0; d0 (BK ho hc hv hs hpure) hdd hd hg w
theorem dclP {tys : Array TypeId} {f : FuncId} {args : Array Operand} {az : List A} {c : Prop} [Decidable c] (hpure : Pure E f az [.one (.bool (decide c))]) (ho : o.op = .call { callee := .value z, args := args, argTypes := tys }) {d : Nat} (G0 : E.eval t z = .clo f [] ∧ dataL false (args.toList.map (E.eval t)) = some az ∧ o.dst = some d ∧ Nat.blt d sz = true ∧ guardV ops t o = some true) (w1 : c → WD E sz ops bl (⟨false, .bool true, [], false, [], n, n⟩ :: pre) l (upd t d (.bool true)) h n R) (w2 : ¬ c → WD E sz ops bl (⟨false, .bool false, [], false, [], n, n⟩ :: pre) l (upd t d (.bool false)) h n R) : WD E sz ops bl pre (o :: l) t h n R := by
  obtain ⟨hc, hs, hdd, hd, hg⟩ := G0
  have ho2 := OpOK.case (c := c) (h := h) (n := n) (X9 ho hc hs hpure)
  by_cases hc2 : c
  · exact d0 (ho2.1 hc2) hdd hd hg (w1 hc2)
  · exact d0 (ho2.2 hc2) hdd hd hg (w2 hc2)
theorem dop {tys : Array TypeId} {f : FuncId} {args : Array Operand} {caps vs : List V} {wr : List (Nat × Option Blk)} {n1 : Nat} (hop : Open E f vs h n v wr n1) (ho : o.op = .call { callee := .value z, args := args, argTypes := tys }) (hc : E.eval t z = .clo f caps) (hv : args.toList.map (E.eval t) ++ caps = vs) {d : Nat} (hdd : o.dst = some d) (hd : Nat.blt d sz = true) (hg : guardV ops t o = some true) (w : WD E sz ops bl (⟨false, v, [], true, wr, n, n1⟩ :: pre) l (upd t d v) (app wr h) n1 R) : WD E sz ops bl pre (o :: l) t h n R := dOpD (op_open ho hc (by rw [hv]; exact hop)) hdd hd hg hop.le (fun _ h => by simp at h) w
theorem ropB {tys : Array TypeId} {f : FuncId} {args : Array Operand} {caps vs : List V} {wr : List (Nat × Option Blk)} {n1 : Nat} {c : Bool} (hop : Open E f vs h n (.bool c) wr n1) (ho : o.op = .call { callee := .value z, args := args, argTypes := tys }) {d : Nat} (G0 : E.eval t z = .clo f caps ∧ args.toList.map (E.eval t) ++ caps = vs ∧ o.dst = some d ∧ Nat.blt d sz = true ∧ guardV ops t o = some true) (w1 : c = true → WR E sz ops l (upd t d (.bool true)) (app wr h) n1 R) (w2 : c = false → WR E sz ops l (upd t d (.bool false)) (app wr h) n1 R) : WR E sz ops (o :: l) t h n R := by
  obtain ⟨hc, hv, hdd, hd, hg⟩ := G0
  cases hc2 : c
  · rw [hc2] at hop; exact I9 hop ho hc hv hdd hd hg (w2 hc2)
  · rw [hc2] at hop; exact I9 hop ho hc hv hdd hd hg (w1 hc2)
theorem K7 {α : Type} {p : α → Prop} {tys : Array TypeId} {f : FuncId} {args : Array Operand} {caps vs : List V} {v : α → V} {wr : α → List (Nat × Option Blk)} {n1 : α → Nat} (hop : ∃ a, p a ∧ Open E f vs h n (v a) (wr a) (n1 a)) (ho : o.op = .call { callee := .value z, args := args, argTypes := tys }) {d : Nat} (G0 : E.eval t z = .clo f caps ∧ args.toList.map (E.eval t) ++ caps = vs ∧ o.dst = some d ∧ Nat.blt d sz = true ∧ guardV ops t o = some true) (w : ∀ a, p a → WR E sz ops l (upd t d (v a)) (app (wr a) h) (n1 a) R) : WR E sz ops (o :: l) t h n R := by
  obtain ⟨hc, hv, hdd, hd, hg⟩ := G0
  obtain ⟨a, h1, h2⟩ := hop
  exact I9 h2 ho hc hv hdd hd hg (w a h1)
theorem dopX {α : Type} {p : α → Prop} {tys : Array TypeId} {f : FuncId} {args : Array Operand} {caps vs : List V} {v : α → V} {wr : α → List (Nat × Option Blk)} {n1 : α → Nat} (hop : ∃ a, p a ∧ Open E f vs h n (v a) (wr a) (n1 a)) (ho : o.op = .call { callee := .value z, args := args, argTypes := tys }) {d : Nat} (G0 : E.eval t z = .clo f caps ∧ args.toList.map (E.eval t) ++ caps = vs ∧ o.dst = some d ∧ Nat.blt d sz = true ∧ guardV ops t o = some true) (w : ∀ a, p a → WD E sz ops bl (⟨false, v a, [], true, wr a, n, n1 a⟩ :: pre) l (upd t d (v a)) (app (wr a) h) (n1 a) R) : WD E sz ops bl pre (o :: l) t h n R := by
  obtain ⟨hc, hv, hdd, hd, hg⟩ := G0
  obtain ⟨a, h1, h2⟩ := hop
  exact dop h2 ho hc hv hdd hd hg (w a h1)
end rules
end Go.V
namespace Go.V
open Go.RowKit (Below)
set_option linter.unusedSimpArgs false
set_option linter.unusedVariables false
def Less (t' t : Nat → V) : Prop := ∀ i, t' i = t i ∨ t' i = .unk
def LessH (h' h : Heap) : Prop := ∀ id b, h' id = some b → h id = some b
theorem Less.refl (t : Nat → V) : Less t t := fun _ => .inl rfl
theorem LessH.refl (h : Heap) : LessH h h := fun _ _ e => e
section
variable {E : Env} {sz : Nat} {t t' : Nat → V} {h h' : Heap} {n n' : Nat} {Q : Post} {k : Code}
theorem Exec.less {x : Ex} {t2 : Nat → V} {h2 : Heap} {n2 : Nat} (e : Exec E sz k t' h' n' x t2 h2 n2) (ht : Less t' t) (hh : LessH h' h) (hn : n ≤ n') : Exec E sz k t h n x t2 h2 n2 := by
  refine ⟨Nat.le_trans hn e.1, fun c a hs hg hf => ?_⟩
  refine wp_mono (e.2 c a ⟨hs.size, fun i => ?_, hs.defers⟩ (hg.less hh) (fun id hid => hf id (Nat.le_trans hn hid))) ?_
  · rcases ht i with h1 | h1
    · rw [h1]; exact hs.tmps i
    · rw [h1]; exact .unk _
  · rintro ee a' w' ⟨h1, c', h2, h3, h4, h5, h6⟩
    exact ⟨h1, c', h2, h3, h4, h5, fun id hid => (h6 id hid).imp (fun h => h) (fun h => ⟨Nat.le_trans hn h.1, h.2⟩)⟩
theorem WP.less (t' : Nat → V) (h' : Heap) (n' : Nat) (ht : Less t' t) (hh : LessH h' h) (hn : n ≤ n') (w : WP E sz k t' h' n' Q) : WP E sz k t h n Q := by
  unfold WP at w ⊢
  obtain ⟨x, t2, h2, n2, e, q⟩ := w
  exact ⟨x, t2, h2, n2, e.less ht hh hn, q⟩
theorem WL.less (t' : Nat → V) (h' : Heap) (n' : Nat) (ht : Less t' t) (hh : LessH h' h) (hn : n ≤ n') (w : WL E sz k t' h' n' Q) : WL E sz k t h n Q := by
  unfold WL at w ⊢
  obtain ⟨x, t2, h2, n2, e, q⟩ := w
  refine ⟨x, t2, h2, n2, ?_, q⟩
  cases e with
  | last e hx => exact .last (e.less ht hh hn) hx
  | more e r => exact .more (e.less ht hh hn) r
end
theorem W5 {p : Nat → Prop} : ∀ j, j < 0 → p j := fun j hj => absurd hj (Nat.not_lt_zero j)
theorem U7 {p : Nat → Prop} {i : Nat} (h : ∀ j, j < i → p j) (hi : p i) : ∀ j, j < i + 1 → p j := fun j hj => by
  rcases Nat.lt_or_ge j i with h1 | h1
  · exact h j h1
  · obtain rfl : j = i := by omega
    exact hi
theorem K0 {h : Heap} {x : V} {i j m : Nat} {b : Blk} {es : List (List V)} (hx : x = .view i j m) (hb : h i = some b) (hl : j + m ≤ b.es.length) (he : (b.es.drop j).take m = es) : srcV h x = some es := by
  subst hx
  simp only [srcV, hb, hl, if_true, he]
theorem A7 {P : Program} {t : Nat → V} {h : Heap} {a ty id i j k : Nat} {b : Blk} {cs xs : List V} (ha : t a = .ptr id i j) (hb : h id = some b) (G0 : b.es[i]? = some cs ∧ rowP P ty = some (true, k)) (hl : j + k ≤ cs.length) (hx : (cs.drop j).take k = xs) : resV P t h (.cell a ty) = some (.agg xs) := by
  obtain ⟨hi, hr⟩ := G0
  subst hx
  simp only [resV, ha, hb, hi, hr, hl, if_true]
theorem A8 {P : Program} {t : Nat → V} {h : Heap} : resL P t h [] = some [] := rfl
theorem A5 {P : Program} {t : Nat → V} {h : Heap} {r : ResultVar} {rs : List ResultVar} {x : V} {xs : List V} (h1 : resV P t h r = some x) (h2 : resL P t h rs = some xs) : resL P t h (r :: rs) = some (x :: xs) := by
  simp only [resL, h1, h2]
def lst (l : List V) : Nat → V := fun i => (l[i]?).getD .unk
inductive LE (t : Nat → V) : Nat → List V → Prop
  | nil (k : Nat) : LE t k []
  | eq (k : Nat) (v : V) (l : List V) (h : t k = v) (r : LE t (k + 1) l) : LE t k (v :: l)
  | unk (k : Nat) (l : List V) (r : LE t (k + 1) l) : LE t k (.unk :: l)
theorem LE.get {t : Nat → V} {l : List V} {k : Nat} (e : LE t k l) (i : Nat) : lst l i = t (k + i) ∨ lst l i = .unk := by
  induction e generalizing i with
  | nil k => exact .inr (by simp [lst])
  | eq k v l h r ih =>
    cases i with
    | zero => exact .inl (by simp [lst, h])
    | succ i => simpa [lst, Nat.add_assoc, Nat.add_comm 1 i] using ih i
  | unk k l r ih =>
    cases i with
    | zero => exact .inr (by simp [lst])
    | succ i => simpa [lst, Nat.add_assoc, Nat.add_comm 1 i] using ih i
theorem LE.less {t : Nat → V} {l : List V} (e : LE t 0 l) : Less (lst l) t := fun i => by simpa using e.get i
section
variable {E : Env} {sz : Nat} {t t' : Nat → V} {h h' : Heap} {n n' : Nat} {Q : Post} {k : Code}
theorem wlN {l : List V} (w : WL E sz k (lst l) h n Q) (e : LE t 0 l) : WL E sz k t h n Q := w.less _ _ _ e.less (LessH.refl _) (Nat.le_refl _)
theorem H4 {l : List V} (w : WL E sz k (lst l) h' n' Q) (e : LE t 0 l) (hh : LessH h' h) (hn : n ≤ n') : WL E sz k t h n Q := w.less _ _ _ e.less hh hn
end
def residC (size : Nat) (bl : List Nat) (cs : List Nat) : List (Nat × Nat) :=
  (List.range size).flatMap fun j => (List.range j).filterMap fun i =>
    if (bl.getD j 0).testBit i then none else
    match cs[i]?, cs[j]? with
    | some e, some f => if compat e f then none else some (i, j)
    | _, _ => none
theorem residC_eq (size : Nat) (bl : List Nat) (es : List Ef) : residE size bl es = residC size bl (es.map Ef.cls) := by
  unfold residE residC
  congr 1
  funext j
  congr 1
  funext i
  split
  · rfl
  · rw [List.getElem?_map, List.getElem?_map]
    cases es[i]? <;> cases es[j]? <;> rfl
theorem B1 {E : Env} {sz : Nat} {t : Nat → V} {h : Heap} {n : Nat} {ops : Array Oper} {bl : List Nat} {pre : List Ef} {R : (Nat → V) → Heap → Nat → Prop} (m : Nat) (cs : List Nat) (rs : List (Nat × Nat)) (G0 : ops.size = m ∧ pre.map Ef.cls = cs)
    (hr : residC m bl cs.reverse = rs) (hc : ClearL pre.reverse rs) (q : R t h n) : WD E sz ops bl pre [] t h n R := have ⟨hm, hcs⟩ := G0; dNil (by rw [residC_eq, hm, List.map_reverse, hcs, hr]; exact hc) q
theorem D2 {E : Env} {fn : Func} {x : Ex} {t : Nat → V} {h : Heap} {n : Nat} {p : Prop} [Decidable p] (hr : resL E.P t h fn.results.toList = some [.bool true]) (hp : p) (hx : x = .norm ∨ x = .ret := by first | exact .inl rfl | exact .inr rfl) : FinOK E fn [.one (.bool (decide p))] x t h n := by
  rw [decide_eq_true hp]
  exact fin hr rfl hx
theorem C9 {E : Env} {fn : Func} {x : Ex} {t : Nat → V} {h : Heap} {n : Nat} {p : Prop} [Decidable p] (hr : resL E.P t h fn.results.toList = some [.bool false]) (hp : ¬ p) (hx : x = .norm ∨ x = .ret := by first | exact .inl rfl | exact .inr rfl) : FinOK E fn [.one (.bool (decide p))] x t h n := by
  rw [decide_eq_false hp]
  exact fin hr rfl hx
theorem P9 {E : Env} {fn : Func} {res : List A} {x : Ex} {t : Nat → V} {h : Heap} {n : Nat} {xs : List V} (ids : List Nat) (hr : resL E.P t h fn.results.toList = some xs) (hs : SnapL h ids true xs res) (hx : x = .norm ∨ x = .ret := by first | exact .inl rfl | exact .inr rfl) : FinOK E fn res x t h n :=
  ⟨hx, xs, ids, AF hr, hs.spec.1, hs.spec.2⟩
def hp : List (Nat × Blk) → Heap
  | [] => fun _ => none
  | (i, b) :: r => fun j => if j = i then some b else hp r j
theorem E2 {h : Heap} : LessH (hp []) h := fun id b e => by cases e
theorem E3 {h : Heap} {i : Nat} {b : Blk} {l : List (Nat × Blk)} (e : h i = some b) (r : LessH (hp l) h) : LessH (hp ((i, b) :: l)) h := fun id x hx => by
  by_cases hi : id = i
  · subst hi
    simp only [hp, if_true, Option.some.injEq] at hx
    subst hx; exact e
  · simp only [hp, hi, if_false] at hx
    exact r id x hx
section
variable {E : Env} {sz : Nat} {t t' : Nat → V} {h h' : Heap} {n n' : Nat} {Q : Post} {k : Code}
theorem E9 {α : Type} (T : α → List V) (H : α → Heap) (N : α → Nat) (I : α → Prop) (m : α → Nat) (a0 : α) (h0 : I a0) (le : LE t 0 (T a0)) (hh : LessH (H a0) h) (hn : n ≤ N a0)
    (step : ∀ a, I a → (∀ b, I b → m b < m a → WL E sz k (lst (T b)) (H b) (N b) Q) → WL E sz k (lst (T a)) (H a) (N a) Q) : WL E sz k t h n Q := by
  have key : ∀ M a, m a ≤ M → I a → WL E sz k (lst (T a)) (H a) (N a) Q := by
    intro M
    induction M with
    | zero => exact fun a ha hi => step a hi fun b hb hlt => by omega
    | succ M ih => exact fun a ha hi => step a hi fun b hb hlt => ih b (by omega) hb
  exact H4 (key _ a0 (Nat.le_refl _) h0) le hh hn
theorem AJ {α : Type} (T : α → List V) (I : α → Prop) (m : α → Nat) (a0 : α) (h0 : I a0) (le : LE t 0 (T a0))
    (step : ∀ a, I a → (∀ b, I b → m b < m a → WL E sz k (lst (T b)) h n Q) → WL E sz k (lst (T a)) h n Q) : WL E sz k t h n Q :=
  E9 T (fun _ => h) (fun _ => n) I m a0 h0 le (LessH.refl _) (Nat.le_refl _) step
end
inductive TW : T → T → Prop
  | refl (x : T) : TW x x
  | nil : TW .nsl (.sl false [])
  | sl (nn : Bool) (es : List (List T)) : TW (.sl nn es) (.sl false es)
inductive TWL : List T → List T → Prop
  | nil : TWL [] []
  | cons (x y : T) (xs ys : List T) (h : TW x y) (r : TWL xs ys) : TWL (x :: xs) (y :: ys)
inductive AW : A → A → Prop
  | one (x y : T) (h : TW x y) : AW (.one x) (.one y)
  | agg (xs ys : List T) (h : TWL xs ys) : AW (.agg xs) (.agg ys)
inductive AWL : List A → List A → Prop
  | nil : AWL [] []
  | cons (x y : A) (xs ys : List A) (h : AW x y) (r : AWL xs ys) : AWL (x :: xs) (y :: ys)
theorem TW.ok {I : Nat → Prop} {w : World} {x y : T} (h : TW x y) {v : Value} (hv : TR I w x v) : TR I w y v := by
  cases h with
  | refl => exact hv
  | nil =>
    cases hv
    exact .sl false [] none 0 0 0 (fun _ _ => undef) rfl (Nat.le_refl _) (fun _ => ⟨rfl, rfl, rfl⟩) (fun A hA => by cases hA) (by simp) (fun A _ _ _ hA => by cases hA) (fun i j c hc => by simp [get2] at hc)
  | sl nn es =>
    cases hv with
    | sl _ _ a len cap sz rd hlen hcap hnil hI hsz hrd hsub => exact .sl false es a len cap sz rd hlen hcap (fun h => ⟨rfl, (hnil h).2⟩) hI hsz hrd hsub
theorem TWL.get {xs ys : List T} (h : TWL xs ys) : xs.length = ys.length ∧ ∀ (i : Nat) (y : T), ys[i]? = some y → ∃ x, xs[i]? = some x ∧ TW x y := by
  induction h with
  | nil => exact ⟨rfl, by simp⟩
  | cons x y xs ys h r ih =>
    refine ⟨by simp [ih.1], fun i z hz => ?_⟩
    cases i with
    | zero => simp only [List.getElem?_cons_zero, Option.some.injEq] at hz; subst hz; exact ⟨x, rfl, h⟩
    | succ i => simpa using ih.2 i z (by simpa using hz)
theorem AWL.get {xs ys : List A} (h : AWL xs ys) : xs.length = ys.length ∧ ∀ (i : Nat) (y : A), ys[i]? = some y → ∃ x, xs[i]? = some x ∧ AW x y := by
  induction h with
  | nil => exact ⟨rfl, by simp⟩
  | cons x y xs ys h r ih =>
    refine ⟨by simp [ih.1], fun i z hz => ?_⟩
    cases i with
    | zero => simp only [List.getElem?_cons_zero, Option.some.injEq] at hz; subst hz; exact ⟨x, rfl, h⟩
    | succ i => simpa using ih.2 i z (by simpa using hz)
theorem AW.ok {I : Nat → Prop} {w : World} {x y : A} (h : AW x y) {v : Value} (hv : AR I w x v) : AR I w y v := by
  cases h with
  | one x y h => cases hv with | one _ _ hv => exact .one _ _ (h.ok hv)
  | agg xs ys h =>
    cases hv with
    | agg _ vs hl hv =>
      refine .agg _ _ (by rw [← h.get.1]; exact hl) fun i y v hy hv' => ?_
      obtain ⟨x, hx, hxy⟩ := h.get.2 i y hy
      exact hxy.ok (hv i x v hx hv')
theorem AWL.ok {I : Nat → Prop} {w : World} {xs ys : List A} (h : AWL xs ys) {v : Value} (hv : RR I w xs v) : RR I w ys v := by
  cases hv with
  | one a v hv =>
    cases h with
    | cons _ y _ ys h r => cases r with | nil => exact .one _ _ (h.ok hv)
  | tup az vs hne hl hv =>
    refine .tup _ _ (by rw [← h.get.1]; exact hne) (by rw [← h.get.1]; exact hl) fun i y v hy hv' => ?_
    obtain ⟨x, hx, hxy⟩ := h.get.2 i y hy
    exact hxy.ok (hv i x v hx hv')
theorem Pure.weak {E : Env} {f : FuncId} {az rs rs' : List A} (hp : Pure E f az rs) (h : AWL rs rs') : Pure E f az rs' := by
  unfold Pure at hp ⊢
  refine ⟨hp.1, fun I w vs h1 h2 h3 h4 => Calls.mono (hp.2 I w vs h1 h2 h3 h4) ?_⟩
  rintro e w' ⟨v, rfl, hb, hr⟩
  exact ⟨v, rfl, hb, h.ok hr⟩
theorem AW.get {x y : A} (h : AW x y) {I : Nat → Prop} {w : World} {v : Value} (hv : AR I w x v) : AR I w y v := h.ok hv
theorem app0 {h : Heap} : app [] h = h := rfl
theorem appC {h : Heap} {i : Nat} {b : Option Blk} {r : List (Nat × Option Blk)} : app ((i, b) :: r) h = app r (upd h i b) := rfl
theorem updS {f : Heap} {d i : Nat} {v : Option Blk} (h : i = d) : upd f d v i = v := by subst h; exact upd_same ..
theorem updN {f : Heap} {d i : Nat} {v : Option Blk} (h : ¬ i = d) : upd f d v i = f i := B8 f v h
theorem hpS {i j : Nat} {b : Blk} {l : List (Nat × Blk)} (h : j = i) : hp ((i, b) :: l) j = some b := by subst h; simp [hp, upd]
theorem hpN {i j : Nat} {b : Blk} {l : List (Nat × Blk)} (h : ¬ j = i) : hp ((i, b) :: l) j = hp l j := by simp [hp, upd, h]
theorem K8 {h h' : Heap} {n : Nat} {wr : List (Nat × Option Blk)} (hw : ∀ j ∈ wr.map (·.1), h' j = app wr h j) (ho : ∀ j, j < n → j ∉ wr.map (·.1) → h' j = h j) :
    (∀ i, n ≤ i → h i = none) → ∀ id b, app wr h id = some b → h' id = some b := by
  intro hz id b hb
  by_cases hi : id ∈ wr.map (·.1)
  · rw [hw id hi]; exact hb
  · rw [O0 _ _ _ hi] at hb
    rcases Nat.lt_or_ge id n with h1 | h1
    · rw [ho id h1 hi]; exact hb
    · rw [hz id h1] at hb; cases hb
theorem wrap_i64 {x : Int} (h1 : -9223372036854775808 ≤ x) (h2 : x ≤ 9223372036854775807) : IntKind.i64.wrap x = x := G4 h1 h2
end Go.V
namespace Go.Proofs.Ytknnniaoboaghaa
open Go.V
theorem Q0 {P : Prop} (h : P := by (first | ((simp (disch := omega) only [↓app0, ↓appC, ↓updS, ↓updN, ↓hpS, ↓hpN]) <;> first | rfl | assumption) | assumption | rfl)) : P := h
theorem Q1 {P : Prop} (h : P := by (first | rfl | assumption | exact List.getElem?_set_self (by assumption) | exact List.getElem?_set_self (by rw [List.length_set]; assumption))) : P := h
theorem Q2 {P : Prop} (h : P := by (first | omega | assumption | (focus (simp; done)) | (focus (simp; omega)) | (focus (simp [putR]; omega)) | (focus ((try dsimp only); simp only [List.length_map, List.length_append, List.length_take, List.length_drop, List.length_replicate]; omega)))) : P := h
theorem Q3 {P : Prop} (h : P := by (first | ((simp (disch := (first | omega | assumption)) only [↓appC, ↓updN, ↓updS, ↓app0, ↓hpS, ↓hpN]) <;> first | rfl | assumption) | ((simp (disch := (first | omega | (intro _ _; dsimp only; omega))) only [↓appC, ↓updN, ↓updS, ↓app0, ↓famAO]) <;> first | rfl | assumption) | assumption | rfl)) : P := h
theorem Q4 {P : Prop} (h : P := by (first | omega | assumption | (focus (simp; omega)))) : P := h
theorem Q5 {P : Prop} (h : P := by (first | rfl | assumption | exact List.getElem?_set_self (by assumption))) : P := h
theorem Q6 {P : Prop} (h : P := by (first | rfl | (show (Sl1.cell && (Ss1.cell && true)) = true; rw [kcl1, kcs1]; rfl) | (show (Sl2.cell && (Ss2.cell && true)) = true; rw [kcl2, kcs2]; rfl))) : P := h
theorem Q7 {P : Prop} (h : P := by (first | rfl | assumption | (first | exact D8 Rq.T Rq0 (k := i) (by omega) | exact D8 iT 0 (k := i) (by omega) | exact D8 Gr.T Gr0 (k := i) (by omega) | (have e : ((i : Int) - 1).toNat = i - 1 := (by omega); rw [e]; exact D8 Gr.T Gr0 (k := i - 1) (by omega)) | exact I2 (i := k) (by omega)))) : P := h
theorem Q8 {P : Prop} (h : P := by (first | rfl | (show (Sl1.cell && (Ss1.cell && true)) = true; rw [kcl1, kcs1]; rfl) | (show (Sl2.cell && (Ss2.cell && true)) = true; rw [kcl2, kcs2]; rfl) | (show (Sl2.cell && true) = true; rw [kcl2]; rfl))) : P := h
theorem Q9 {P : Prop} (h : P := by (first | rfl | assumption | exact List.getElem?_set_self (by (try simp only [List.length_set]); exact hj))) : P := h
theorem C7 {P : Prop} (h : P := by (first | rfl | assumption)) : P := h
theorem Q11 {P : Prop} (h : P := by (first | omega | (focus (simp only [List.length_cons, List.length_nil]; omega)) | exact Nat.le_of_ble_eq_true rfl | (focus ((try dsimp only); simp only [List.length_take, List.length_drop, B5, List.length_cons, List.length_nil, List.length_append]; omega)))) : P := h
theorem Q12 {P : Prop} (h : P := by (first | omega | (focus (simp only [List.length_cons, List.length_nil]; omega)) | exact Nat.le_of_ble_eq_true rfl | (focus ((try dsimp only); simp only [List.length_take, List.length_drop, List.length_map, List.length_cons, List.length_nil, List.length_append]; omega)))) : P := h
theorem AC {P : Prop} (h : P := by (first | rfl | assumption | (focus (simp; done)) | (focus (intro _ hc; rw [List.mem_singleton] at hc; subst hc; rfl)) | (intro _ _; simp_all))) : P := h
theorem Q14 {P : Prop} (h : P := by (first | omega | (focus (simp only [List.length_cons, List.length_nil]; omega)) | exact Nat.le_of_ble_eq_true rfl | ((show (_ + 1) * _ ≤ _); omega) | ((show _ + 1 ≤ _); omega) | (rw [List.length_map]; (show (_ + 1) * _ ≤ _); omega) | (rw [List.length_map]; (show _ + 1 ≤ _); omega))) : P := h
theorem J8 {P : Prop} (h : P := by (first | omega | assumption | exact Q1 | exact Q0)) : P := h
theorem Q16 {P : Prop} (h : P := by (first | omega | (focus (simp only [List.length_cons, List.length_nil]; omega)) | exact Nat.le_of_ble_eq_true rfl | ((show (_ + 1) * _ ≤ _); omega) | ((show _ + 1 ≤ _); omega) | (focus (simp only [List.length_cons, List.length_nil, B5, List.length_take]; omega)))) : P := h
theorem Q17 {P : Prop} (h : P := by (first | ((simp (disch := (first | omega | assumption)) only [↓appC, ↓updN, ↓updS, ↓app0, ↓hpS, ↓hpN]) <;> first | rfl | assumption) | assumption | rfl)) : P := h
theorem Q18 {P : Prop} (h : P := by (first | rfl | exact srcZ (ks2.mono (fun a ha => by have q := T2.fs a ha; have qa := q.1; have qb := q.2.1; have qc := hO a (.inr (.inr (.inl ha))); (simp (disch := (first | omega | assumption)) only [↓appC, ↓updN, ↓updS, ↓app0]))) (by first | omega | (simp only [List.length_map]; omega)) (by first | omega | (simp only [List.length_map]; omega)) | (apply K0 rfl; exact Q0; (first | exact Nat.le_refl _ | omega); rfl))) : P := h
theorem Q19 {P : Prop} (h : P := by (first | (have hd : hit s L := (hit_of hs (i := lo) (by omega) (cb_eq.1 h8_12)).2; rw [decide_eq_true hd, hp1]; exact E7 rfl rfl (fun _ _ _ e => e) (by omega)) | (have hd : ¬ hit s L := (fun hq => by have q1 := hq.1; have q2 := hq.2; rw [hp1] at q1 q2; first | omega | exact h8_12 (cb_eq.2 q2)); rw [decide_eq_false hd, hp1]; exact E7 rfl rfl (fun _ _ _ e => e) (by omega)))) : P := h
theorem Y0 {P : Prop} (h : P := by (first | omega | assumption | (dsimp only; omega))) : P := h
theorem BM {P : Prop} (h : P := by (first | rfl | (apply K0 rfl; exact Q0; (first | exact Nat.le_refl _ | omega); rfl))) : P := h
theorem Q22 {P : Prop} (h : P := by (first | rfl | assumption | (exact fun c hc => rwW_mem _ _ c (List.mem_of_mem_drop (List.mem_of_mem_take hc))) | (focus (simp; done)) | (focus (intro _ hc; rw [List.mem_singleton] at hc; subst hc; rfl)) | (intro _ _; simp_all))) : P := h
theorem H1 {P : Prop} (h : P := by (first | omega | assumption)) : P := h
theorem Q24 {P : Prop} (h : P := by (first | omega | (focus (simp only [List.length_cons, List.length_nil]; omega)) | fail)) : P := h
theorem Q25 {P : Prop} (h : P := by (first | rfl | (show ((T.toV fr (nlT (B i) ((t.lk.getD i Lk0).ws.map wtT))).cell && true) = true; rw [P3]; rfl))) : P := h
theorem Q26 {P : Prop} (h : P := by (first | rfl | assumption | (exact fun c hc => by obtain ⟨s, _, rfl⟩ := List.mem_map.1 (List.mem_of_mem_drop (List.mem_of_mem_take hc)); rfl) | (focus (simp; done)) | (focus (intro _ hc; rw [List.mem_singleton] at hc; subst hc; rfl)) | (intro _ _; simp_all))) : P := h
theorem Q27 {P : Prop} (h : P := by (first | rfl | (apply K0 rfl; exact Q0; (first | exact Nat.le_refl _ | (show _ ≤ (rwW t.lk W).length; rw [B5]; omega) | omega); rfl))) : P := h
theorem Q28 {P : Prop} (h : P := by (first | rfl | assumption | exact hS3 | exact List.getElem?_set_self (by rw [List.length_map]; omega))) : P := h
theorem Q29 {P : Prop} (h : P := by (first | rfl | exact Nat.min_eq_left (by omega) | exact Nat.min_eq_right (by omega) | (show Nat.min _ _ = _; simp only [Nat.min_def]; split <;> omega))) : P := h
theorem Q30 {P : Prop} (h : P := by (first | (focus (simp [ClearL, ids]; done)) | (focus (simp [ClearL, ids]; omega)) | (simp [ClearL, ids, Env.eval, upd]; (repeat' (first | omega | (intro hx; have := fo4 _ _ _ hx; omega) | apply And.intro))))) : P := h
theorem Q31 {P : Prop} (h : P := by (first | rfl | omega | (focus (simp; done)) | (focus (simp; omega)))) : P := h
theorem Q32 {P : Prop} (h : P := by (first | omega | (focus (simp only [List.length_cons, List.length_nil]; omega)) | exact Nat.le_of_ble_eq_true rfl | ((show (_ + 1) * _ ≤ _); omega) | ((show _ + 1 ≤ _); omega))) : P := h
theorem AK {P : Prop} (h : P := by (first | omega | exact Q0 | exact Q4)) : P := h
theorem S4 {P : Prop} (h : P := by (first | exact Q0 | fail)) : P := h
theorem Q35 {P : Prop} (h : P := by (first | omega | assumption | decide | exact wrap_nn _ | (focus (simp; done)) | (focus (simp; omega)))) : P := h
theorem Q36 {P : Prop} (h : P := by (first | rfl | assumption | (first | exact D8 Rq.T Rq0 (k := i) (by omega) | exact D8 iT 0 (k := i) (by omega)))) : P := h
theorem Q37 {P : Prop} (h : P := by (first | omega | assumption | (rw [P4]; show ((1 : Nat) : Int) + _ ≤ _; omega) | (rw [P4]; show 1 + _ ≤ _; omega) | (show 1 + _ ≤ _; omega) | (focus (simp; omega)))) : P := h
theorem Q38 {P : Prop} (h : P := by (first | omega | (focus (simp only [List.length_cons, List.length_nil]; omega)) | exact Nat.le_of_ble_eq_true rfl)) : P := h
theorem Q39 {P : Prop} (h : P := by (first | rfl | exact hrow (by omega))) : P := h
theorem Q40 {P : Prop} (h : P := by (first | omega | exact Q0 | exact Y0)) : P := h
theorem Q41 {P : Prop} (h : P := by (first | rfl | exact tbV_cell | (show ((T.toV true (nlT _ _)).cell && true) = true; rw [P3]; rfl))) : P := h
open Go.V
set_option linter.unusedVariables false
set_option maxRecDepth 20000
noncomputable def En : Env := ⟨Try.prog, fun _ => none⟩
theorem p84 (a b c : Int) : Pure En 57 [.one (.int .i64 a), .one (.int .i64 b), .one (.int .i64 c)] [.one (.bool (decide (b ≤ a ∧ a ≤ c)))] := by
 refine Pure.of_wp Try.func57 rfl kb ?_
 refine A2 (A0 (C6 j5 (A3 (A1 (A2 (A0 (B6 j5 (B6 j5 ?_))))))))
 refine rge j6 ?_ ?_ <;> intro h1_2
 ·refine C4 j5 (B6 j5 (B6 j5 ?_))
  refine rle j6 ?_ ?_ <;> intro h1_6
  ·refine C0 (e := true) j6 (C6 j5 (A3 (A1 (A9 ?_))))
   first | (refine D2 rfl ?_; omega) | (refine C9 rfl ?_; omega)
  ·refine C0 (e := false) j6 (C6 j5 (A3 (A1 (A9 ?_))))
   first | (refine D2 rfl ?_; omega) | (refine C9 rfl ?_; omega)
 ·refine C4 j5 (A4 j3 (A4 j3 (A4 j3 (C0 (e := false) j6 (C6 j5 (A3 (A1 (A9 ?_))))))))
  first | (refine D2 rfl ?_; omega) | (refine C9 rfl ?_; omega)
theorem Z9 (a b c : Int) : Pure En 77 [.one (.int .i64 a), .one (.int .i64 b), .one (.int .i64 c)] [.one (.bool (decide (b ≤ a ∧ a ≤ c)))] := by
 refine Pure.of_wp Try.func77 rfl kb ?_
 refine A2 (A0 (C6 j5 (A3 (A1 (A2 (A0 (B6 j5 (B6 j5 ?_))))))))
 refine rge j6 ?_ ?_ <;> intro h1_2
 ·refine C4 j5 (B6 j5 (B6 j5 ?_))
  refine rle j6 ?_ ?_ <;> intro h1_6
  ·refine C0 (e := true) j6 (C6 j5 (A3 (A1 (A9 ?_))))
   first | (refine D2 rfl ?_; omega) | (refine C9 rfl ?_; omega)
  ·refine C0 (e := false) j6 (C6 j5 (A3 (A1 (A9 ?_))))
   first | (refine D2 rfl ?_; omega) | (refine C9 rfl ?_; omega)
 ·refine C4 j5 (A4 j3 (A4 j3 (A4 j3 (C0 (e := false) j6 (C6 j5 (A3 (A1 (A9 ?_))))))))
  first | (refine D2 rfl ?_; omega) | (refine C9 rfl ?_; omega)
def letter (a : Int) : Prop := (97 ≤ a ∧ a ≤ 122) ∨ (65 ≤ a ∧ a ≤ 90) ∨ a = 95
instance (a : Int) : Decidable (letter a) := by unfold letter; infer_instance
def digit (a : Int) : Prop := 48 ≤ a ∧ a ≤ 57
instance (a : Int) : Decidable (digit a) := by unfold digit; infer_instance
theorem p93 (a : Int) : Pure En 148 [.one (.int .u8 a)] [.one (.bool (decide (letter a)))] := by
 refine Pure.of_wp Try.func148 rfl kb ?_
 refine A2 (A0 (C6 j5 (A3 (A1 (A2 (A0 (B6 j5 ?_)))))))
 refine rge j6 ?_ ?_ <;> intro h1_1
 ·refine C4 j5 (B6 j5 ?_)
  refine rle j6 ?_ ?_ <;> intro h1_4
  ·refine C0 (e := true) j6 (C4 j5 (A4 j3 (A4 j3 (A4 j3 (A4 j3 (A4 j3 (A4 j3 (C0 (e := true) j6 (C4 j5 (A4 j3 (A4 j3 (C0 (e := true) j6 ?_))))))))))))
   refine C6 j5 (A3 (A1 (A9 ?_)))
   first | (refine D2 rfl ?_; unfold letter; omega) | (refine C9 rfl ?_; unfold letter; omega)
  ·refine C0 (e := false) j6 (C4 j5 (B6 j5 ?_))
   refine rge j6 ?_ ?_ <;> intro h1_8
   ·refine C4 j5 (B6 j5 ?_)
    refine rle j6 ?_ ?_ <;> intro h1_11
    ·refine C0 (e := true) j6 (C0 (e := true) j6 (C4 j5 (A4 j3 (A4 j3 (C0 (e := true) j6 (C6 j5 (A3 (A1 (A9 ?_)))))))))
     first | (refine D2 rfl ?_; unfold letter; omega) | (refine C9 rfl ?_; unfold letter; omega)
    ·refine C0 (e := false) j6 (C0 (e := false) j6 (C4 j5 (B6 j5 ?_)))
     refine H5 j6 ?_ ?_ <;> intro h1_16
     ·refine C0 (e := true) j6 (C6 j5 (A3 (A1 (A9 ?_))))
      first | (refine D2 rfl ?_; unfold letter; omega) | (refine C9 rfl ?_; unfold letter; omega)
     ·refine C0 (e := false) j6 (C6 j5 (A3 (A1 (A9 ?_))))
      first | (refine D2 rfl ?_; unfold letter; omega) | (refine C9 rfl ?_; unfold letter; omega)
   ·refine C4 j5 (A4 j3 (A4 j3 (C0 (e := false) j6 (C0 (e := false) j6 (C4 j5 (B6 j5 ?_))))))
    refine H5 j6 ?_ ?_ <;> intro h1_16
    ·refine C0 (e := true) j6 (C6 j5 (A3 (A1 (A9 ?_))))
     first | (refine D2 rfl ?_; unfold letter; omega) | (refine C9 rfl ?_; unfold letter; omega)
    ·refine C0 (e := false) j6 (C6 j5 (A3 (A1 (A9 ?_))))
     first | (refine D2 rfl ?_; unfold letter; omega) | (refine C9 rfl ?_; unfold letter; omega)
 ·refine C4 j5 (A4 j3 (A4 j3 (C0 (e := false) j6 (C4 j5 (B6 j5 ?_)))))
  refine rge j6 ?_ ?_ <;> intro h1_8
  ·refine C4 j5 (B6 j5 ?_)
   refine rle j6 ?_ ?_ <;> intro h1_11
   ·refine C0 (e := true) j6 (C0 (e := true) j6 (C4 j5 (A4 j3 (A4 j3 (C0 (e := true) j6 (C6 j5 (A3 (A1 (A9 ?_)))))))))
    first | (refine D2 rfl ?_; unfold letter; omega) | (refine C9 rfl ?_; unfold letter; omega)
   ·refine C0 (e := false) j6 (C0 (e := false) j6 (C4 j5 (B6 j5 ?_)))
    refine H5 j6 ?_ ?_ <;> intro h1_16
    ·refine C0 (e := true) j6 (C6 j5 (A3 (A1 (A9 ?_))))
     first | (refine D2 rfl ?_; unfold letter; omega) | (refine C9 rfl ?_; unfold letter; omega)
    ·refine C0 (e := false) j6 (C6 j5 (A3 (A1 (A9 ?_))))
     first | (refine D2 rfl ?_; unfold letter; omega) | (refine C9 rfl ?_; unfold letter; omega)
  ·refine C4 j5 (A4 j3 (A4 j3 (C0 (e := false) j6 (C0 (e := false) j6 (C4 j5 (B6 j5 ?_))))))
   refine H5 j6 ?_ ?_ <;> intro h1_16
   ·refine C0 (e := true) j6 (C6 j5 (A3 (A1 (A9 ?_))))
    first | (refine D2 rfl ?_; unfold letter; omega) | (refine C9 rfl ?_; unfold letter; omega)
   ·refine C0 (e := false) j6 (C6 j5 (A3 (A1 (A9 ?_))))
    first | (refine D2 rfl ?_; unfold letter; omega) | (refine C9 rfl ?_; unfold letter; omega)
theorem p83 (a : Int) : Pure En 145 [.one (.int .u8 a)] [.one (.bool (decide (letter a)))] := by
 refine Pure.of_wp Try.func145 rfl kb ?_
 refine A2 (A0 (C6 j5 (A3 (A1 (A2 (A0 (B6 j5 ?_)))))))
 refine rge j6 ?_ ?_ <;> intro h1_1
 ·refine C4 j5 (B6 j5 ?_)
  refine rle j6 ?_ ?_ <;> intro h1_4
  ·refine C0 (e := true) j6 (C4 j5 (A4 j3 (A4 j3 (A4 j3 (A4 j3 (A4 j3 (A4 j3 (C0 (e := true) j6 (C4 j5 (A4 j3 (A4 j3 (C0 (e := true) j6 ?_))))))))))))
   refine C6 j5 (A3 (A1 (A9 ?_)))
   first | (refine D2 rfl ?_; unfold letter; omega) | (refine C9 rfl ?_; unfold letter; omega)
  ·refine C0 (e := false) j6 (C4 j5 (B6 j5 ?_))
   refine rge j6 ?_ ?_ <;> intro h1_8
   ·refine C4 j5 (B6 j5 ?_)
    refine rle j6 ?_ ?_ <;> intro h1_11
    ·refine C0 (e := true) j6 (C0 (e := true) j6 (C4 j5 (A4 j3 (A4 j3 (C0 (e := true) j6 (C6 j5 (A3 (A1 (A9 ?_)))))))))
     first | (refine D2 rfl ?_; unfold letter; omega) | (refine C9 rfl ?_; unfold letter; omega)
    ·refine C0 (e := false) j6 (C0 (e := false) j6 (C4 j5 (B6 j5 ?_)))
     refine H5 j6 ?_ ?_ <;> intro h1_16
     ·refine C0 (e := true) j6 (C6 j5 (A3 (A1 (A9 ?_))))
      first | (refine D2 rfl ?_; unfold letter; omega) | (refine C9 rfl ?_; unfold letter; omega)
     ·refine C0 (e := false) j6 (C6 j5 (A3 (A1 (A9 ?_))))
      first | (refine D2 rfl ?_; unfold letter; omega) | (refine C9 rfl ?_; unfold letter; omega)
   ·refine C4 j5 (A4 j3 (A4 j3 (C0 (e := false) j6 (C0 (e := false) j6 (C4 j5 (B6 j5 ?_))))))
    refine H5 j6 ?_ ?_ <;> intro h1_16
    ·refine C0 (e := true) j6 (C6 j5 (A3 (A1 (A9 ?_))))
     first | (refine D2 rfl ?_; unfold letter; omega) | (refine C9 rfl ?_; unfold letter; omega)
    ·refine C0 (e := false) j6 (C6 j5 (A3 (A1 (A9 ?_))))
     first | (refine D2 rfl ?_; unfold letter; omega) | (refine C9 rfl ?_; unfold letter; omega)
 ·refine C4 j5 (A4 j3 (A4 j3 (C0 (e := false) j6 (C4 j5 (B6 j5 ?_)))))
  refine rge j6 ?_ ?_ <;> intro h1_8
  ·refine C4 j5 (B6 j5 ?_)
   refine rle j6 ?_ ?_ <;> intro h1_11
   ·refine C0 (e := true) j6 (C0 (e := true) j6 (C4 j5 (A4 j3 (A4 j3 (C0 (e := true) j6 (C6 j5 (A3 (A1 (A9 ?_)))))))))
    first | (refine D2 rfl ?_; unfold letter; omega) | (refine C9 rfl ?_; unfold letter; omega)
   ·refine C0 (e := false) j6 (C0 (e := false) j6 (C4 j5 (B6 j5 ?_)))
    refine H5 j6 ?_ ?_ <;> intro h1_16
    ·refine C0 (e := true) j6 (C6 j5 (A3 (A1 (A9 ?_))))
     first | (refine D2 rfl ?_; unfold letter; omega) | (refine C9 rfl ?_; unfold letter; omega)
    ·refine C0 (e := false) j6 (C6 j5 (A3 (A1 (A9 ?_))))
     first | (refine D2 rfl ?_; unfold letter; omega) | (refine C9 rfl ?_; unfold letter; omega)
  ·refine C4 j5 (A4 j3 (A4 j3 (C0 (e := false) j6 (C0 (e := false) j6 (C4 j5 (B6 j5 ?_))))))
   refine H5 j6 ?_ ?_ <;> intro h1_16
   ·refine C0 (e := true) j6 (C6 j5 (A3 (A1 (A9 ?_))))
    first | (refine D2 rfl ?_; unfold letter; omega) | (refine C9 rfl ?_; unfold letter; omega)
   ·refine C0 (e := false) j6 (C6 j5 (A3 (A1 (A9 ?_))))
    first | (refine D2 rfl ?_; unfold letter; omega) | (refine C9 rfl ?_; unfold letter; omega)
theorem p94 (a : Int) : Pure En 149 [.one (.int .u8 a)] [.one (.bool (decide (digit a)))] := by
 refine Pure.of_wp Try.func149 rfl kb ?_
 refine A2 (A0 (C6 j5 (A3 (A1 (A2 (A0 (B6 j5 ?_)))))))
 refine rge j6 ?_ ?_ <;> intro h1_1
 ·refine C4 j5 (B6 j5 ?_)
  refine rle j6 ?_ ?_ <;> intro h1_4
  ·refine C0 (e := true) j6 (C6 j5 (A3 (A1 (A9 ?_))))
   first | (refine D2 rfl ?_; unfold digit; omega) | (refine C9 rfl ?_; unfold digit; omega)
  ·refine C0 (e := false) j6 (C6 j5 (A3 (A1 (A9 ?_))))
   first | (refine D2 rfl ?_; unfold digit; omega) | (refine C9 rfl ?_; unfold digit; omega)
 ·refine C4 j5 (A4 j3 (A4 j3 (C0 (e := false) j6 (C6 j5 (A3 (A1 (A9 ?_)))))))
  first | (refine D2 rfl ?_; unfold digit; omega) | (refine C9 rfl ?_; unfold digit; omega)
def word (s : ByteArray) : Prop := 1 ≤ s.size ∧ s.size ≤ 40 ∧ letter (bt s 0) ∧ ∀ j, j < s.size → letter (bt s j) ∨ digit (bt s j)
noncomputable instance (s : ByteArray) : Decidable (word s) := Classical.propDecidable _
theorem p91 (s : ByteArray) : Pure En 142 [.one (.str s)] [.one (.bool (decide (word s)))] := by
 refine Pure.of_wp Try.func142 rfl kb ?_
 refine A2 (A0 (C6 j5 (A3 (A1 (A2 (A2 (A0 (S7 j5 (rls rfl j5 ?_)))))))))
 refine I6 j6 ?_ ?_ <;> intro h1_2
 ·refine C4 j5 (A4 j3 (A4 j3 (A4 j3 (C0 (e := true) j6 (C4 j5 (A4 j3 (A4 j3 (A4 j3 (A4 j3 (C0 (e := true) j6 (A3 (A1 ?_))))))))))))
  refine wT rfl (A2 (A0 (C6 j5 (A3 (A1 (A9 (B2 ?_)))))))
  first
   | exact D2 rfl ⟨by omega, by omega, by assumption, fun j hj => hI.2.2 j (by omega)⟩
   | (refine C9 rfl fun hw => ?_; obtain ⟨w1, w2, w3, w4⟩ := hw; first | omega | exact h1_11 w3 | exact (w4 i (by omega)).elim h6_3 h6_9)
 ·refine C4 j5 (S7 j5 (rls rfl j5 ?_))
  refine V4 j6 ?_ ?_ <;> intro h1_6
  ·refine C0 (e := true) j6 (C4 j5 (A4 j3 (A4 j3 (A4 j3 (A4 j3 (C0 (e := true) j6 (A3 (A1 (wT rfl (A2 (A0 (C6 j5 ?_))))))))))))
   refine A3 (A1 (A9 (B2 ?_)))
   first
    | exact D2 rfl ⟨by omega, by omega, by assumption, fun j hj => hI.2.2 j (by omega)⟩
    | (refine C9 rfl fun hw => ?_; obtain ⟨w1, w2, w3, w4⟩ := hw; first | omega | exact h1_11 w3 | exact (w4 i (by omega)).elim h6_3 h6_9)
  ·refine C0 (e := false) j6 (C4 j5 (S7 j5 (rixsK (i := 0) j4 ?_ ?_ j4 ?_)))
   ·exact Q4
   ·exact Q4
   refine F3 (p93 _) rfl j5 ?_ ?_ <;> intro h1_11
   ·refine D5 (c := true) j5 (C0 (e := false) j6 (A3 (A1 (wF rfl (B0 (A1 (A2 (A2 (A0 (D0 j5 (A3 (A1 ?_))))))))))))
    refine B3 (F0 ?_)
    refine AJ (fun (i : Nat) => [.str s, .unk, .unk, .int .i64 i]) (fun (i : Nat) => 1 ≤ i ∧ i ≤ s.size ∧ ∀ j, j < i → letter (bt s j) ∨ digit (bt s j)) (fun (i : Nat) => s.size - i) 1 ?_ ?_ ?_
    ·exact ⟨by omega, by omega, U7 W5 (.inl h1_11)⟩
    ·(repeat first | exact LE.nil _ | refine LE.unk _ _ ?_ | refine LE.eq _ _ _ rfl ?_)
    intro i hI ih
    refine E8 (A2 (A2 (A0 (B6 j5 (S7 j5 (rls rfl j5 ?_))))))
    refine I6 j6 ?_ ?_ <;> intro h4_3
    ·refine A3 (A1 (wT rfl (B0 (A1 (A2 (B3 (A2 (A0 (S7 j5 (B6 j5 (rixs j4 ?_ ?_ j3 ?_)))))))))))
     ·exact Q4
     ·exact Q4
     refine F3 (p93 _) rfl j5 ?_ ?_ <;> intro h6_3
     ·refine D5 (c := true) j5 (C4 j5 (A4 j3 (A4 j3 (A4 j3 (A4 j3 (A4 j3 (C0 (e := false) j6 (A3 (A1 (wF rfl (B0 (B7 ?_))))))))))))
      refine A1 (A0 (B6 j5 (C3 j3 ?_ ?_ j3 ?_)))
      ·exact Q4
      ·exact Q4
      refine D0 j5 (A3 (D1 ?_))
      exact wlN (ih (i + 1) ⟨by omega, by omega, U7 hI.2.2 (by first | exact .inl h6_3 | exact .inr h6_9)⟩ (by omega)) (by (repeat first | exact LE.nil _ | refine LE.unk _ _ ?_ | refine LE.eq _ _ _ rfl ?_))
     ·refine D5 (c := false) j5 (C4 j5 (S7 j5 (B6 j5 (rixs j4 ?_ ?_ j3 ?_))))
      ·exact Q4
      ·exact Q4
      refine F3 (p94 _) rfl j5 ?_ ?_ <;> intro h6_9
      ·refine D5 (c := true) j5 (C0 (e := false) j6 (A3 (A1 (wF rfl (B0 (B7 (A1 (A0 (B6 j5 (C3 j3 ?_ ?_ j3 ?_))))))))))
       ·exact Q4
       ·exact Q4
       refine D0 j5 (A3 (D1 ?_))
       exact wlN (ih (i + 1) ⟨by omega, by omega, U7 hI.2.2 (by first | exact .inl h6_3 | exact .inr h6_9)⟩ (by omega)) (by (repeat first | exact LE.nil _ | refine LE.unk _ _ ?_ | refine LE.eq _ _ _ rfl ?_))
      ·refine D5 (c := false) j5 (C0 (e := true) j6 (A3 (A1 (wT rfl (A2 (A0 (C6 j5 (A3 (A1 (A9 (B4 (B2 ?_))))))))))))
       refine I4 (B4 (B2 ?_))
       first
        | exact D2 rfl ⟨by omega, by omega, by assumption, fun j hj => hI.2.2 j (by omega)⟩
        | (refine C9 rfl fun hw => ?_; obtain ⟨w1, w2, w3, w4⟩ := hw; first | omega | exact h1_11 w3 | exact (w4 i (by omega)).elim h6_3 h6_9)
    ·refine A3 (A1 (wF rfl (E5 (E6 (D7 (C8 (A1 (A2 (A0 (C6 j5 (A3 (A1 ?_))))))))))))
     refine A9 ?_
     first
      | exact D2 rfl ⟨by omega, by omega, by assumption, fun j hj => hI.2.2 j (by omega)⟩
      | (refine C9 rfl fun hw => ?_; obtain ⟨w1, w2, w3, w4⟩ := hw; first | omega | exact h1_11 w3 | exact (w4 i (by omega)).elim h6_3 h6_9)
   ·refine D5 (c := false) j5 (C0 (e := true) j6 (A3 (A1 (wT rfl (A2 (A0 (C6 j5 (A3 (A1 (A9 (B2 ?_)))))))))))
    first
     | exact D2 rfl ⟨by omega, by omega, by assumption, fun j hj => hI.2.2 j (by omega)⟩
     | (refine C9 rfl fun hw => ?_; obtain ⟨w1, w2, w3, w4⟩ := hw; first | omega | exact h1_11 w3 | exact (w4 i (by omega)).elim h6_3 h6_9)
theorem p89 (s : ByteArray) : Pure En 119 [.one (.str s)] [.one (.bool (decide (word s)))] := by
 refine Pure.of_wp Try.func119 rfl kb ?_
 refine A2 (A0 (C6 j5 (A3 (A1 (A2 (A0 (S7 j5 ?_)))))))
 refine F3 (p91 _) rfl j5 ?_ ?_ <;> intro h1_1
 ·refine C6 j5 (A3 (A1 (A9 ?_)))
  first | exact D2 rfl (by assumption) | exact C9 rfl (by assumption)
 ·refine C6 j5 (A3 (A1 (A9 ?_)))
  first | exact D2 rfl (by assumption) | exact C9 rfl (by assumption)
end Go.Proofs.Ytknnniaoboaghaa
