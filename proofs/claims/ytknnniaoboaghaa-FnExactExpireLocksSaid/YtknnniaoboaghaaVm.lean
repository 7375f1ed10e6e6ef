/- A logic over abstract states: the steps of a proof, one rule for each kind of operation. No conditions. Written by genrules.py. -/
import Derived.Test.YtknnniaoboaghaaVo
namespace Go.V
open Go.RowKit (Below)
set_option linter.unusedSimpArgs false
set_option linter.unusedVariables false

theorem bytes_eq (a b : ByteArray) : (a.toList == b.toList) = decide (a = b) := by
  by_cases h : a = b
  · subst h; simp
  · have : a.toList ≠ b.toList := fun e => h (by
      rw [ByteArray.toList_eq, ByteArray.toList_eq] at e
      obtain ⟨⟨x⟩⟩ := a
      obtain ⟨⟨y⟩⟩ := b
      have e : x = y := e
      rw [e])
    simp [h, this]

theorem op_max {E : Env} {o : Oper} {t : Nat → V} {h : Heap} {n : Nat} {x y : Operand} {tys : Array TypeId} {k : IntKind} {a b : Int} (ho : o.op = .call { callee := .builtin .max, args := #[x, y], argTypes := tys }) (hx : E.eval t x = .int k a) (hy : E.eval t y = .int k b) :
    OpOK E o t h n [] false (.int k (max a b)) [] n := by
  have e : max a b = if a < b then b else a := by split <;> omega
  rw [e]
  exact OpOK.value fun c a' h2 hx' hg hrd => by
    have g1 := (by have := hx' x (by simp [ho, Op.operands, Call.operands]); rw [hx] at this; exact this.int_inv)
    have g2 := (by have := hx' y (by simp [ho, Op.operands, Call.operands]); rw [hy] at this; exact this.int_inv)
    refine ⟨.int k (if a < b then b else a), ?_, .int _ _⟩
    simp [execOp, ho, g1, g2, resolve, invoke, builtin, Builtin.max_, Builtin.max2]

theorem op_min {E : Env} {o : Oper} {t : Nat → V} {h : Heap} {n : Nat} {x y : Operand} {tys : Array TypeId} {k : IntKind} {a b : Int} (ho : o.op = .call { callee := .builtin .min, args := #[x, y], argTypes := tys }) (hx : E.eval t x = .int k a) (hy : E.eval t y = .int k b) :
    OpOK E o t h n [] false (.int k (min a b)) [] n := by
  have e : min a b = if b < a then b else a := by split <;> omega
  rw [e]
  exact OpOK.value fun c a' h2 hx' hg hrd => by
    have g1 := (by have := hx' x (by simp [ho, Op.operands, Call.operands]); rw [hx] at this; exact this.int_inv)
    have g2 := (by have := hx' y (by simp [ho, Op.operands, Call.operands]); rw [hy] at this; exact this.int_inv)
    refine ⟨.int k (if b < a then b else a), ?_, .int _ _⟩
    simp [execOp, ho, g1, g2, resolve, invoke, builtin, Builtin.min_, Builtin.min2]

inductive SnapC (h : Heap) (ids : List Nat) (r : Bool) : List V → List T → Prop
  | nil : SnapC h ids r [] []
  | cons (x : V) (y : T) (xs : List V) (ys : List T) (hs : Snap h ids r x y) (hr : SnapC h ids r xs ys) : SnapC h ids r (x :: xs) (y :: ys)
inductive SnapL (h : Heap) (ids : List Nat) (r : Bool) : List V → List A → Prop
  | nil : SnapL h ids r [] []
  | cons (x : V) (y : A) (xs : List V) (ys : List A) (hs : SnapA h ids r x y) (hr : SnapL h ids r xs ys) : SnapL h ids r (x :: xs) (y :: ys)
theorem SnapC.spec {h : Heap} {ids : List Nat} {r : Bool} {xs : List V} {ys : List T} (s : SnapC h ids r xs ys) : xs.length = ys.length ∧ ∀ (i : Nat) (x : V) (y : T), xs[i]? = some x → ys[i]? = some y → Snap h ids r x y := by
  induction s with
  | nil => exact ⟨rfl, by simp⟩
  | cons x y xs ys hs hr ih =>
    refine ⟨by simp [ih.1], fun i u v hu hv => ?_⟩
    cases i with
    | zero =>
      simp only [List.getElem?_cons_zero, Option.some.injEq] at hu hv
      subst hu; subst hv; exact hs
    | succ i => exact ih.2 i u v (by simpa using hu) (by simpa using hv)
theorem SnapC.agg {h : Heap} {ids : List Nat} {r : Bool} {xs : List V} {ys : List T} (s : SnapC h ids r xs ys) : SnapA h ids r (.agg xs) (.agg ys) := .agg xs ys s.spec.1 s.spec.2
theorem SnapL.spec {h : Heap} {ids : List Nat} {r : Bool} {xs : List V} {ys : List A} (s : SnapL h ids r xs ys) : xs.length = ys.length ∧ ∀ (i : Nat) (x : V) (y : A), xs[i]? = some x → ys[i]? = some y → SnapA h ids r x y := by
  induction s with
  | nil => exact ⟨rfl, by simp⟩
  | cons x y xs ys hs hr ih =>
    refine ⟨by simp [ih.1], fun i u v hu hv => ?_⟩
    cases i with
    | zero =>
      simp only [List.getElem?_cons_zero, Option.some.injEq] at hu hv
      subst hu; subst hv; exact hs
    | succ i => exact ih.2 i u v (by simpa using hu) (by simpa using hv)
theorem snapT {h : Heap} {ids : List Nat} {r fr : Bool} (x : T) (hr : r = true → fr = true) : Snap h ids r (x.toV fr) x := by
  cases x with
  | sl nn es => exact .sl fr nn es fun h => .inl (hr h)
  | _ => constructor
/-- Rows of data, as a block holds them. -/
def rowsV (rows : List (List T)) : List (List V) := rows.map (·.map (T.toV true))
theorem rowsV_length (a : List (List T)) : (rowsV a).length = a.length := by simp [rowsV]
theorem snapView {h : Heap} {ids : List Nat} {r : Bool} {id m : Nat} {b : Blk} (rows : List (List T)) (hid : id ∈ ids) (hb : h id = some b) (he : b.es = rowsV rows) (hm : m = rows.length) : Snap h ids r (.view id 0 m) (.sl true rows) := by
  subst hm
  have e : ((b.es.drop 0).take rows.length) = rowsV rows := by
    rw [he, List.drop_zero, List.take_of_length_le]
    rw [rowsV_length]; exact Nat.le_refl _
  refine .view id 0 _ b rows hid hb (by rw [he, rowsV_length]; omega) rfl (fun i x y h1 h2 => ?_) (fun i j x y h1 h2 => ?_)
  · rw [e] at h1
    simp only [rowsV, List.getElem?_map, h2, Option.map_some, Option.some.injEq] at h1
    subst h1; simp
  · rw [e] at h1
    unfold get2 at h1 h2
    cases hr : rows[i]? with
    | none => simp [hr] at h2
    | some row =>
      simp only [rowsV, List.getElem?_map, hr, Option.map_some, Option.bind_some] at h1 h2
      rw [h2] at h1
      simp only [Option.map_some, Option.some.injEq] at h1
      subst h1
      exact snapT y fun _ => rfl

theorem op_callS {E : Env} {t : Nat → V} {h : Heap} {n : Nat} {o : Oper} {z : Operand} {tys : Array TypeId} {f : FuncId} {args : Array Operand} {as rs : List A} {vs : List V} {ids : List Nat} (ho : o.op = .call { callee := .value z, args := args, argTypes := tys }) (hc : E.eval t z = .clo f []) (hv : args.toList.map (E.eval t) = vs) (hs : SnapL h ids false vs as) (hpure : Pure E f as rs) :
    OpOK E o t h n ids false (retV true rs) [] n := by
  have g := hs.spec
  refine op_call (ids := ids) ho hc (by rw [← hv] at g; simpa using g.1) (fun i x a h1 h2 => g.2 i _ a ?_ h2) hpure
  have : args.toList[i]? = some x := by simpa using h1
  rw [← hv, List.getElem?_map, this]; rfl

theorem wrap_fits {a : Int} (h1 : -9223372036854775808 ≤ a) (h2 : a ≤ 9223372036854775807) : IntKind.i64.wrap a = a := by rw [IntKind.wrap_i64]; omega

section rules
variable {E : Env} {sz : Nat} {t : Nat → V} {h : Heap} {n : Nat} {ops : Array Oper} {l : List Oper} {o : Oper} {bl : List Nat} {pre : List Ef} {R : (Nat → V) → Heap → Nat → Prop} {x y z : Operand} {ty ty' : TypeId} {k : IntKind} {a b : Int} {p q : ByteArray} {v : V}

theorem op_st {i j m s : Nat} {B : Blk} {cs ys : List V} {r : Bool} {u : V} (ho : o.op = .store ty x y) (hx : E.eval t x = .ptr i j m) (hy : E.eval t y = u) (hb : h i = some B) (hi : B.es[j]? = some cs) (hr : rowP E.P ty = some (r, s)) (hk : u.known = true) (hkl : u.cells.length = s) (hc : u.cells.all V.cell = true) (hl : m + s ≤ cs.length) (hs : splice cs m u.cells = ys) :
    OpOK E o t h n [i] false .unk [(i, some { B with es := B.es.set j ys })] n := by subst hy; subst hs; exact op_store ho hx hb hi hr hk hkl hc hl

theorem op_callD {tys : Array TypeId} {f : FuncId} {args : Array Operand} {as rs : List A} (ho : o.op = .call { callee := .value z, args := args, argTypes := tys }) (hc : E.eval t z = .clo f []) (hs : dataL false (args.toList.map (E.eval t)) = some as) (hpure : Pure E f as rs) :
    OpOK E o t h n [] false (retV true rs) [] n := by
  have g := dataL_ok (h := h) (ids := []) hs
  refine op_call (ids := []) ho hc (by simpa using g.1) (fun i x a h1 h2 => g.2 i _ a ?_ h2) hpure
  have : args.toList[i]? = some x := by simpa using h1
  rw [List.getElem?_map, this]; rfl

/-- Both ways of a bool. -/
theorem OpOK.case {rd : List Nat} {c : Prop} [Decidable c] (hop : OpOK E o t h n rd false (.bool (decide c)) [] n) : (c → OpOK E o t h n rd false (.bool true) [] n) ∧ (¬ c → OpOK E o t h n rd false (.bool false) [] n) :=
  ⟨fun hc => hop.to (by simp [hc]), fun hc => hop.to (by simp [hc])⟩
theorem OpOK.caseB {rd : List Nat} {c : Bool} (hop : OpOK E o t h n rd false (.bool c) [] n) : (c = true → OpOK E o t h n rd false (.bool true) [] n) ∧ (c = false → OpOK E o t h n rd false (.bool false) [] n) :=
  ⟨fun hc => hop.to (by rw [hc]), fun hc => hop.to (by rw [hc])⟩
theorem rmI (ho : o.op = .move x) (hx : E.eval t x = .int k a) {d : Nat} (hdd : o.dst = some d) (hd : Nat.blt d sz = true) (hg : guardV ops t o = some true) (w : WR E sz ops l (upd t d (.int k a)) h n R) : WR E sz ops (o :: l) t h n R := r0 (oMv ho hx) hdd hd hg w
theorem dmI (ho : o.op = .move x) (hx : E.eval t x = .int k a) {d : Nat} (hdd : o.dst = some d) (hd : Nat.blt d sz = true) (hg : guardV ops t o = some true) (w : WD E sz ops bl (⟨false, .int k a, [], false, [], n, n⟩ :: pre) l (upd t d (.int k a)) h n R) : WD E sz ops bl pre (o :: l) t h n R := d0 (oMv ho hx) hdd hd hg w
theorem rmB {c : Bool} (ho : o.op = .move x) (hx : E.eval t x = .bool c) {d : Nat} (hdd : o.dst = some d) (hd : Nat.blt d sz = true) (hg : guardV ops t o = some true) (w : WR E sz ops l (upd t d (.bool c)) h n R) : WR E sz ops (o :: l) t h n R := r0 (oMv ho hx) hdd hd hg w
theorem dmB {c : Bool} (ho : o.op = .move x) (hx : E.eval t x = .bool c) {d : Nat} (hdd : o.dst = some d) (hd : Nat.blt d sz = true) (hg : guardV ops t o = some true) (w : WD E sz ops bl (⟨false, .bool c, [], false, [], n, n⟩ :: pre) l (upd t d (.bool c)) h n R) : WD E sz ops bl pre (o :: l) t h n R := d0 (oMv ho hx) hdd hd hg w
theorem rmS (ho : o.op = .move x) (hx : E.eval t x = .str p) {d : Nat} (hdd : o.dst = some d) (hd : Nat.blt d sz = true) (hg : guardV ops t o = some true) (w : WR E sz ops l (upd t d (.str p)) h n R) : WR E sz ops (o :: l) t h n R := r0 (oMv ho hx) hdd hd hg w
theorem rmV {i j m : Nat} (ho : o.op = .move x) (hx : E.eval t x = .view i j m) {d : Nat} (hdd : o.dst = some d) (hd : Nat.blt d sz = true) (hg : guardV ops t o = some true) (w : WR E sz ops l (upd t d (.view i j m)) h n R) : WR E sz ops (o :: l) t h n R := r0 (oMv ho hx) hdd hd hg w
theorem rmP {i j m : Nat} (ho : o.op = .move x) (hx : E.eval t x = .ptr i j m) {d : Nat} (hdd : o.dst = some d) (hd : Nat.blt d sz = true) (hg : guardV ops t o = some true) (w : WR E sz ops l (upd t d (.ptr i j m)) h n R) : WR E sz ops (o :: l) t h n R := r0 (oMv ho hx) hdd hd hg w
theorem dmP {i j m : Nat} (ho : o.op = .move x) (hx : E.eval t x = .ptr i j m) {d : Nat} (hdd : o.dst = some d) (hd : Nat.blt d sz = true) (hg : guardV ops t o = some true) (w : WD E sz ops bl (⟨false, .ptr i j m, [], false, [], n, n⟩ :: pre) l (upd t d (.ptr i j m)) h n R) : WD E sz ops bl pre (o :: l) t h n R := d0 (oMv ho hx) hdd hd hg w
theorem rmL {fr nn : Bool} {es : List (List T)} (ho : o.op = .move x) (hx : E.eval t x = .sl fr nn es) {d : Nat} (hdd : o.dst = some d) (hd : Nat.blt d sz = true) (hg : guardV ops t o = some true) (w : WR E sz ops l (upd t d (.sl fr nn es)) h n R) : WR E sz ops (o :: l) t h n R := r0 (oMv ho hx) hdd hd hg w
theorem dmL {fr nn : Bool} {es : List (List T)} (ho : o.op = .move x) (hx : E.eval t x = .sl fr nn es) {d : Nat} (hdd : o.dst = some d) (hd : Nat.blt d sz = true) (hg : guardV ops t o = some true) (w : WD E sz ops bl (⟨false, .sl fr nn es, [], false, [], n, n⟩ :: pre) l (upd t d (.sl fr nn es)) h n R) : WD E sz ops bl pre (o :: l) t h n R := d0 (oMv ho hx) hdd hd hg w
theorem rmN (ho : o.op = .move x) (hx : E.eval t x = .nsl) {d : Nat} (hdd : o.dst = some d) (hd : Nat.blt d sz = true) (hg : guardV ops t o = some true) (w : WR E sz ops l (upd t d (.nsl)) h n R) : WR E sz ops (o :: l) t h n R := r0 (oMv ho hx) hdd hd hg w
theorem rmC {f : FuncId} {cs : List V} (ho : o.op = .move x) (hx : E.eval t x = .clo f cs) {d : Nat} (hdd : o.dst = some d) (hd : Nat.blt d sz = true) (hg : guardV ops t o = some true) (w : WR E sz ops l (upd t d (.clo f cs)) h n R) : WR E sz ops (o :: l) t h n R := r0 (oMv ho hx) hdd hd hg w
theorem rmT {cs : List V} (ho : o.op = .move x) (hx : E.eval t x = .tup cs) {d : Nat} (hdd : o.dst = some d) (hd : Nat.blt d sz = true) (hg : guardV ops t o = some true) (w : WR E sz ops l (upd t d (.tup cs)) h n R) : WR E sz ops (o :: l) t h n R := r0 (oMv ho hx) hdd hd hg w
theorem raI (ho : o.op = .assign x) (hx : E.eval t x = .int k a) {d : Nat} (hdd : o.dst = some d) (hd : Nat.blt d sz = true) (hg : guardV ops t o = some true) (w : WR E sz ops l (upd t d (.int k a)) h n R) : WR E sz ops (o :: l) t h n R := r0 (oAs ho hx) hdd hd hg w
theorem raB {c : Bool} (ho : o.op = .assign x) (hx : E.eval t x = .bool c) {d : Nat} (hdd : o.dst = some d) (hd : Nat.blt d sz = true) (hg : guardV ops t o = some true) (w : WR E sz ops l (upd t d (.bool c)) h n R) : WR E sz ops (o :: l) t h n R := r0 (oAs ho hx) hdd hd hg w
theorem raS (ho : o.op = .assign x) (hx : E.eval t x = .str p) {d : Nat} (hdd : o.dst = some d) (hd : Nat.blt d sz = true) (hg : guardV ops t o = some true) (w : WR E sz ops l (upd t d (.str p)) h n R) : WR E sz ops (o :: l) t h n R := r0 (oAs ho hx) hdd hd hg w
theorem raV {i j m : Nat} (ho : o.op = .assign x) (hx : E.eval t x = .view i j m) {d : Nat} (hdd : o.dst = some d) (hd : Nat.blt d sz = true) (hg : guardV ops t o = some true) (w : WR E sz ops l (upd t d (.view i j m)) h n R) : WR E sz ops (o :: l) t h n R := r0 (oAs ho hx) hdd hd hg w
theorem raP {i j m : Nat} (ho : o.op = .assign x) (hx : E.eval t x = .ptr i j m) {d : Nat} (hdd : o.dst = some d) (hd : Nat.blt d sz = true) (hg : guardV ops t o = some true) (w : WR E sz ops l (upd t d (.ptr i j m)) h n R) : WR E sz ops (o :: l) t h n R := r0 (oAs ho hx) hdd hd hg w
theorem raN (ho : o.op = .assign x) (hx : E.eval t x = .nsl) {d : Nat} (hdd : o.dst = some d) (hd : Nat.blt d sz = true) (hg : guardV ops t o = some true) (w : WR E sz ops l (upd t d (.nsl)) h n R) : WR E sz ops (o :: l) t h n R := r0 (oAs ho hx) hdd hd hg w
theorem rpk {c e : Bool} (ho : o.op = .pick x y z) (hc : E.eval t x = .bool c) (hv : pickV c (E.eval t y) (E.eval t z) = .bool e) {d : Nat} (hdd : o.dst = some d) (hd : Nat.blt d sz = true) (hg : guardV ops t o = some true) (w : WR E sz ops l (upd t d (.bool e)) h n R) : WR E sz ops (o :: l) t h n R := r0 (oPk ho hc hv) hdd hd hg w
theorem dpk {c e : Bool} (ho : o.op = .pick x y z) (hc : E.eval t x = .bool c) (hv : pickV c (E.eval t y) (E.eval t z) = .bool e) {d : Nat} (hdd : o.dst = some d) (hd : Nat.blt d sz = true) (hg : guardV ops t o = some true) (w : WD E sz ops bl (⟨false, .bool e, [], false, [], n, n⟩ :: pre) l (upd t d (.bool e)) h n R) : WD E sz ops bl pre (o :: l) t h n R := d0 (oPk ho hc hv) hdd hd hg w
theorem raddF (ho : o.op = .binOp .add ty x y ty') (hx : E.eval t x = .int .i64 a) (hy : E.eval t y = .int .i64 b) (h1 : -9223372036854775808 ≤ a + b) (h2 : a + b ≤ 9223372036854775807) {d : Nat} (hdd : o.dst = some d) (hd : Nat.blt d sz = true) (hg : guardV ops t o = some true) (w : WR E sz ops l (upd t d (.int .i64 (a + b))) h n R) : WR E sz ops (o :: l) t h n R := r0 ((op_int ho hx hy rfl).to (by rw [wrap_fits h1 h2])) hdd hd hg w
theorem daddF (ho : o.op = .binOp .add ty x y ty') (hx : E.eval t x = .int .i64 a) (hy : E.eval t y = .int .i64 b) (h1 : -9223372036854775808 ≤ a + b) (h2 : a + b ≤ 9223372036854775807) {d : Nat} (hdd : o.dst = some d) (hd : Nat.blt d sz = true) (hg : guardV ops t o = some true) (w : WD E sz ops bl (⟨false, .int .i64 (a + b), [], false, [], n, n⟩ :: pre) l (upd t d (.int .i64 (a + b))) h n R) : WD E sz ops bl pre (o :: l) t h n R := d0 ((op_int ho hx hy rfl).to (by rw [wrap_fits h1 h2])) hdd hd hg w
theorem rsubF (ho : o.op = .binOp .sub ty x y ty') (hx : E.eval t x = .int .i64 a) (hy : E.eval t y = .int .i64 b) (h1 : -9223372036854775808 ≤ a - b) (h2 : a - b ≤ 9223372036854775807) {d : Nat} (hdd : o.dst = some d) (hd : Nat.blt d sz = true) (hg : guardV ops t o = some true) (w : WR E sz ops l (upd t d (.int .i64 (a - b))) h n R) : WR E sz ops (o :: l) t h n R := r0 ((op_int ho hx hy rfl).to (by rw [wrap_fits h1 h2])) hdd hd hg w
theorem dsubF (ho : o.op = .binOp .sub ty x y ty') (hx : E.eval t x = .int .i64 a) (hy : E.eval t y = .int .i64 b) (h1 : -9223372036854775808 ≤ a - b) (h2 : a - b ≤ 9223372036854775807) {d : Nat} (hdd : o.dst = some d) (hd : Nat.blt d sz = true) (hg : guardV ops t o = some true) (w : WD E sz ops bl (⟨false, .int .i64 (a - b), [], false, [], n, n⟩ :: pre) l (upd t d (.int .i64 (a - b))) h n R) : WD E sz ops bl pre (o :: l) t h n R := d0 ((op_int ho hx hy rfl).to (by rw [wrap_fits h1 h2])) hdd hd hg w
theorem rlt (ho : o.op = .binOp .lss ty x y ty') (hx : E.eval t x = .int k a) (hy : E.eval t y = .int k b) {d : Nat} (hdd : o.dst = some d) (hd : Nat.blt d sz = true) (hg : guardV ops t o = some true) (w1 : a < b → WR E sz ops l (upd t d (.bool true)) h n R) (w2 : ¬ (a < b) → WR E sz ops l (upd t d (.bool false)) h n R) : WR E sz ops (o :: l) t h n R := by
  have ho2 := OpOK.case (h := h) (n := n) (c := a < b) (op_int ho hx hy rfl)
  by_cases hc : a < b
  · exact r0 (ho2.1 hc) hdd hd hg (w1 hc)
  · exact r0 (ho2.2 hc) hdd hd hg (w2 hc)
theorem rle (ho : o.op = .binOp .leq ty x y ty') (hx : E.eval t x = .int k a) (hy : E.eval t y = .int k b) {d : Nat} (hdd : o.dst = some d) (hd : Nat.blt d sz = true) (hg : guardV ops t o = some true) (w1 : a ≤ b → WR E sz ops l (upd t d (.bool true)) h n R) (w2 : ¬ (a ≤ b) → WR E sz ops l (upd t d (.bool false)) h n R) : WR E sz ops (o :: l) t h n R := by
  have ho2 := OpOK.case (h := h) (n := n) (c := a ≤ b) (op_int ho hx hy rfl)
  by_cases hc : a ≤ b
  · exact r0 (ho2.1 hc) hdd hd hg (w1 hc)
  · exact r0 (ho2.2 hc) hdd hd hg (w2 hc)
theorem dle (ho : o.op = .binOp .leq ty x y ty') (hx : E.eval t x = .int k a) (hy : E.eval t y = .int k b) {d : Nat} (hdd : o.dst = some d) (hd : Nat.blt d sz = true) (hg : guardV ops t o = some true) (w1 : a ≤ b → WD E sz ops bl (⟨false, .bool true, [], false, [], n, n⟩ :: pre) l (upd t d (.bool true)) h n R) (w2 : ¬ (a ≤ b) → WD E sz ops bl (⟨false, .bool false, [], false, [], n, n⟩ :: pre) l (upd t d (.bool false)) h n R) : WD E sz ops bl pre (o :: l) t h n R := by
  have ho2 := OpOK.case (h := h) (n := n) (c := a ≤ b) (op_int ho hx hy rfl)
  by_cases hc : a ≤ b
  · exact d0 (ho2.1 hc) hdd hd hg (w1 hc)
  · exact d0 (ho2.2 hc) hdd hd hg (w2 hc)
theorem rgt (ho : o.op = .binOp .gtr ty x y ty') (hx : E.eval t x = .int k a) (hy : E.eval t y = .int k b) {d : Nat} (hdd : o.dst = some d) (hd : Nat.blt d sz = true) (hg : guardV ops t o = some true) (w1 : a > b → WR E sz ops l (upd t d (.bool true)) h n R) (w2 : ¬ (a > b) → WR E sz ops l (upd t d (.bool false)) h n R) : WR E sz ops (o :: l) t h n R := by
  have ho2 := OpOK.case (h := h) (n := n) (c := a > b) (op_int ho hx hy rfl)
  by_cases hc : a > b
  · exact r0 (ho2.1 hc) hdd hd hg (w1 hc)
  · exact r0 (ho2.2 hc) hdd hd hg (w2 hc)
theorem dgt (ho : o.op = .binOp .gtr ty x y ty') (hx : E.eval t x = .int k a) (hy : E.eval t y = .int k b) {d : Nat} (hdd : o.dst = some d) (hd : Nat.blt d sz = true) (hg : guardV ops t o = some true) (w1 : a > b → WD E sz ops bl (⟨false, .bool true, [], false, [], n, n⟩ :: pre) l (upd t d (.bool true)) h n R) (w2 : ¬ (a > b) → WD E sz ops bl (⟨false, .bool false, [], false, [], n, n⟩ :: pre) l (upd t d (.bool false)) h n R) : WD E sz ops bl pre (o :: l) t h n R := by
  have ho2 := OpOK.case (h := h) (n := n) (c := a > b) (op_int ho hx hy rfl)
  by_cases hc : a > b
  · exact d0 (ho2.1 hc) hdd hd hg (w1 hc)
  · exact d0 (ho2.2 hc) hdd hd hg (w2 hc)
theorem rge (ho : o.op = .binOp .geq ty x y ty') (hx : E.eval t x = .int k a) (hy : E.eval t y = .int k b) {d : Nat} (hdd : o.dst = some d) (hd : Nat.blt d sz = true) (hg : guardV ops t o = some true) (w1 : a ≥ b → WR E sz ops l (upd t d (.bool true)) h n R) (w2 : ¬ (a ≥ b) → WR E sz ops l (upd t d (.bool false)) h n R) : WR E sz ops (o :: l) t h n R := by
  have ho2 := OpOK.case (h := h) (n := n) (c := a ≥ b) (op_int ho hx hy rfl)
  by_cases hc : a ≥ b
  · exact r0 (ho2.1 hc) hdd hd hg (w1 hc)
  · exact r0 (ho2.2 hc) hdd hd hg (w2 hc)
theorem dge (ho : o.op = .binOp .geq ty x y ty') (hx : E.eval t x = .int k a) (hy : E.eval t y = .int k b) {d : Nat} (hdd : o.dst = some d) (hd : Nat.blt d sz = true) (hg : guardV ops t o = some true) (w1 : a ≥ b → WD E sz ops bl (⟨false, .bool true, [], false, [], n, n⟩ :: pre) l (upd t d (.bool true)) h n R) (w2 : ¬ (a ≥ b) → WD E sz ops bl (⟨false, .bool false, [], false, [], n, n⟩ :: pre) l (upd t d (.bool false)) h n R) : WD E sz ops bl pre (o :: l) t h n R := by
  have ho2 := OpOK.case (h := h) (n := n) (c := a ≥ b) (op_int ho hx hy rfl)
  by_cases hc : a ≥ b
  · exact d0 (ho2.1 hc) hdd hd hg (w1 hc)
  · exact d0 (ho2.2 hc) hdd hd hg (w2 hc)
theorem req (ho : o.op = .binOp .eql ty x y ty') (hx : E.eval t x = .int k a) (hy : E.eval t y = .int k b) {d : Nat} (hdd : o.dst = some d) (hd : Nat.blt d sz = true) (hg : guardV ops t o = some true) (w1 : a = b → WR E sz ops l (upd t d (.bool true)) h n R) (w2 : ¬ (a = b) → WR E sz ops l (upd t d (.bool false)) h n R) : WR E sz ops (o :: l) t h n R := by
  have ho2 := OpOK.case (h := h) (n := n) (c := a = b) ((op_int ho hx hy rfl).to (by by_cases e : a = b <;> simp [e]))
  by_cases hc : a = b
  · exact r0 (ho2.1 hc) hdd hd hg (w1 hc)
  · exact r0 (ho2.2 hc) hdd hd hg (w2 hc)
theorem deq (ho : o.op = .binOp .eql ty x y ty') (hx : E.eval t x = .int k a) (hy : E.eval t y = .int k b) {d : Nat} (hdd : o.dst = some d) (hd : Nat.blt d sz = true) (hg : guardV ops t o = some true) (w1 : a = b → WD E sz ops bl (⟨false, .bool true, [], false, [], n, n⟩ :: pre) l (upd t d (.bool true)) h n R) (w2 : ¬ (a = b) → WD E sz ops bl (⟨false, .bool false, [], false, [], n, n⟩ :: pre) l (upd t d (.bool false)) h n R) : WD E sz ops bl pre (o :: l) t h n R := by
  have ho2 := OpOK.case (h := h) (n := n) (c := a = b) ((op_int ho hx hy rfl).to (by by_cases e : a = b <;> simp [e]))
  by_cases hc : a = b
  · exact d0 (ho2.1 hc) hdd hd hg (w1 hc)
  · exact d0 (ho2.2 hc) hdd hd hg (w2 hc)
theorem rne (ho : o.op = .binOp .neq ty x y ty') (hx : E.eval t x = .int k a) (hy : E.eval t y = .int k b) {d : Nat} (hdd : o.dst = some d) (hd : Nat.blt d sz = true) (hg : guardV ops t o = some true) (w1 : a ≠ b → WR E sz ops l (upd t d (.bool true)) h n R) (w2 : ¬ (a ≠ b) → WR E sz ops l (upd t d (.bool false)) h n R) : WR E sz ops (o :: l) t h n R := by
  have ho2 := OpOK.case (h := h) (n := n) (c := a ≠ b) ((op_int ho hx hy rfl).to (by by_cases e : a = b <;> simp [e]))
  by_cases hc : a ≠ b
  · exact r0 (ho2.1 hc) hdd hd hg (w1 hc)
  · exact r0 (ho2.2 hc) hdd hd hg (w2 hc)
theorem dne (ho : o.op = .binOp .neq ty x y ty') (hx : E.eval t x = .int k a) (hy : E.eval t y = .int k b) {d : Nat} (hdd : o.dst = some d) (hd : Nat.blt d sz = true) (hg : guardV ops t o = some true) (w1 : a ≠ b → WD E sz ops bl (⟨false, .bool true, [], false, [], n, n⟩ :: pre) l (upd t d (.bool true)) h n R) (w2 : ¬ (a ≠ b) → WD E sz ops bl (⟨false, .bool false, [], false, [], n, n⟩ :: pre) l (upd t d (.bool false)) h n R) : WD E sz ops bl pre (o :: l) t h n R := by
  have ho2 := OpOK.case (h := h) (n := n) (c := a ≠ b) ((op_int ho hx hy rfl).to (by by_cases e : a = b <;> simp [e]))
  by_cases hc : a ≠ b
  · exact d0 (ho2.1 hc) hdd hd hg (w1 hc)
  · exact d0 (ho2.2 hc) hdd hd hg (w2 hc)
theorem rsne (ho : o.op = .binOp .neq ty x y ty') (hx : E.eval t x = .str p) (hy : E.eval t y = .str q) {d : Nat} (hdd : o.dst = some d) (hd : Nat.blt d sz = true) (hg : guardV ops t o = some true) (w1 : p ≠ q → WR E sz ops l (upd t d (.bool true)) h n R) (w2 : ¬ (p ≠ q) → WR E sz ops l (upd t d (.bool false)) h n R) : WR E sz ops (o :: l) t h n R := by
  have ho2 := OpOK.case (h := h) (n := n) (c := p ≠ q) ((op_str ho hx hy rfl).to (by rw [bytes_eq]; by_cases e : p = q <;> simp [e]))
  by_cases hc : p ≠ q
  · exact r0 (ho2.1 hc) hdd hd hg (w1 hc)
  · exact r0 (ho2.2 hc) hdd hd hg (w2 hc)
theorem dsne (ho : o.op = .binOp .neq ty x y ty') (hx : E.eval t x = .str p) (hy : E.eval t y = .str q) {d : Nat} (hdd : o.dst = some d) (hd : Nat.blt d sz = true) (hg : guardV ops t o = some true) (w1 : p ≠ q → WD E sz ops bl (⟨false, .bool true, [], false, [], n, n⟩ :: pre) l (upd t d (.bool true)) h n R) (w2 : ¬ (p ≠ q) → WD E sz ops bl (⟨false, .bool false, [], false, [], n, n⟩ :: pre) l (upd t d (.bool false)) h n R) : WD E sz ops bl pre (o :: l) t h n R := by
  have ho2 := OpOK.case (h := h) (n := n) (c := p ≠ q) ((op_str ho hx hy rfl).to (by rw [bytes_eq]; by_cases e : p = q <;> simp [e]))
  by_cases hc : p ≠ q
  · exact d0 (ho2.1 hc) hdd hd hg (w1 hc)
  · exact d0 (ho2.2 hc) hdd hd hg (w2 hc)
theorem dsge (ho : o.op = .binOp .geq ty x y ty') (hx : E.eval t x = .str p) (hy : E.eval t y = .str q) {d : Nat} (hdd : o.dst = some d) (hd : Nat.blt d sz = true) (hg : guardV ops t o = some true) (w1 : (!Op.bytesLess p.toList q.toList) = true → WD E sz ops bl (⟨false, .bool true, [], false, [], n, n⟩ :: pre) l (upd t d (.bool true)) h n R) (w2 : (!Op.bytesLess p.toList q.toList) = false → WD E sz ops bl (⟨false, .bool false, [], false, [], n, n⟩ :: pre) l (upd t d (.bool false)) h n R) : WD E sz ops bl pre (o :: l) t h n R := by
  have ho2 := OpOK.caseB (h := h) (n := n) (c := (!Op.bytesLess p.toList q.toList)) (op_str ho hx hy rfl)
  cases hc : (!Op.bytesLess p.toList q.toList)
  · exact d0 (ho2.2 hc) hdd hd hg (w2 hc)
  · exact d0 (ho2.1 hc) hdd hd hg (w1 hc)
theorem rcat (ho : o.op = .binOp .add ty x y ty') (hx : E.eval t x = .str p) (hy : E.eval t y = .str q) (hs : p.size + q.size ≤ 9223372036854775807) {d : Nat} (hdd : o.dst = some d) (hd : Nat.blt d sz = true) (hg : guardV ops t o = some true) (w : WR E sz ops l (upd t d (.str (p ++ q))) h n R) : WR E sz ops (o :: l) t h n R := r0 (op_cat ho hx hy hs) hdd hd hg w
theorem rnot {c : Bool} (ho : o.op = .unOp .not ty x) (hx : E.eval t x = .bool c) {d : Nat} (hdd : o.dst = some d) (hd : Nat.blt d sz = true) (hg : guardV ops t o = some true) (w : WR E sz ops l (upd t d (.bool (!c))) h n R) : WR E sz ops (o :: l) t h n R := r0 (op_not ho hx) hdd hd hg w
theorem dnot {c : Bool} (ho : o.op = .unOp .not ty x) (hx : E.eval t x = .bool c) {d : Nat} (hdd : o.dst = some d) (hd : Nat.blt d sz = true) (hg : guardV ops t o = some true) (w : WD E sz ops bl (⟨false, .bool (!c), [], false, [], n, n⟩ :: pre) l (upd t d (.bool (!c))) h n R) : WD E sz ops bl pre (o :: l) t h n R := d0 (op_not ho hx) hdd hd hg w
theorem rquo (ho : o.op = .binOp .quo ty x y ty') (hx : E.eval t x = .int k a) (hy : E.eval t y = .int k b) (hb : b ≠ 0) {d : Nat} (hdd : o.dst = some d) (hd : Nat.blt d sz = true) (hg : guardV ops t o = some true) (w : WR E sz ops l (upd t d (.int k (k.wrap (a.tdiv b)))) h n R) : WR E sz ops (o :: l) t h n R := r0 (op_quo ho hx hy hb) hdd hd hg w
theorem rrem (ho : o.op = .binOp .rem ty x y ty') (hx : E.eval t x = .int k a) (hy : E.eval t y = .int k b) (hb : b ≠ 0) {d : Nat} (hdd : o.dst = some d) (hd : Nat.blt d sz = true) (hg : guardV ops t o = some true) (w : WR E sz ops l (upd t d (.int k (a.tmod b))) h n R) : WR E sz ops (o :: l) t h n R := r0 (op_rem ho hx hy hb) hdd hd hg w
theorem rcv {k' : IntKind} (ho : o.op = .convert ty ty' x) (hx : E.eval t x = .int k a) (hs : (E.P.underlying ty).isSome = true) (hu : E.P.underlying ty' = some (.int k')) {d : Nat} (hdd : o.dst = some d) (hd : Nat.blt d sz = true) (hg : guardV ops t o = some true) (w : WR E sz ops l (upd t d (.int k' (k'.wrap a))) h n R) : WR E sz ops (o :: l) t h n R := r0 (op_conv ho hx hs hu) hdd hd hg w
theorem rnc (ho : o.op = .nilCheck x) (hx : E.eval t x = v) (hn : v.nonnil = true) {d : Nat} (hdd : o.dst = some d) (hd : Nat.blt d sz = true) (hg : guardV ops t o = some true) (w : WR E sz ops l (upd t d (v)) h n R) : WR E sz ops (o :: l) t h n R := r0 ((op_nilCheck ho (by rw [hx]; exact hn)).to hx) hdd hd hg w
theorem dnc (ho : o.op = .nilCheck x) (hx : E.eval t x = v) (hn : v.nonnil = true) {d : Nat} (hdd : o.dst = some d) (hd : Nat.blt d sz = true) (hg : guardV ops t o = some true) (w : WD E sz ops bl (⟨false, v, [], false, [], n, n⟩ :: pre) l (upd t d (v)) h n R) : WD E sz ops bl pre (o :: l) t h n R := d0 ((op_nilCheck ho (by rw [hx]; exact hn)).to hx) hdd hd hg w
theorem rex {i : Nat} {vs : List V} (ho : o.op = .extract x i) (hx : E.eval t x = .tup vs) (hi : vs[i]? = some v) {d : Nat} (hdd : o.dst = some d) (hd : Nat.blt d sz = true) (hg : guardV ops t o = some true) (w : WR E sz ops l (upd t d (v)) h n R) : WR E sz ops (o :: l) t h n R := r0 (op_extract ho hx hi) hdd hd hg w
theorem rmf {f : FuncId} {caps : Array Operand} {vs : List V} (ho : o.op = .makeFunc (.func f) #[] caps) (hv : caps.toList.map (E.eval t) = vs) {d : Nat} (hdd : o.dst = some d) (hd : Nat.blt d sz = true) (hg : guardV ops t o = some true) (w : WR E sz ops l (upd t d (.clo f vs)) h n R) : WR E sz ops (o :: l) t h n R := r0 ((op_makeFunc ho).to (by rw [hv])) hdd hd hg w
theorem rls (ho : o.op = .call { callee := .builtin .len, args := #[x], argTypes := #[ty] }) (hx : E.eval t x = .str p) (hu : E.P.underlying ty = some .string) {d : Nat} (hdd : o.dst = some d) (hd : Nat.blt d sz = true) (hg : guardV ops t o = some true) (w : WR E sz ops l (upd t d (.int .i64 p.size)) h n R) : WR E sz ops (o :: l) t h n R := r0 (op_len_str ho hx hu) hdd hd hg w
theorem rll {m : Nat} (ho : o.op = .call { callee := .builtin .len, args := #[x], argTypes := #[ty] }) (hu : E.P.underlying ty = some (.slice ty')) (hx : lenV (E.eval t x) = some m) {d : Nat} (hdd : o.dst = some d) (hd : Nat.blt d sz = true) (hg : guardV ops t o = some true) (w : WR E sz ops l (upd t d (.int .i64 m)) h n R) : WR E sz ops (o :: l) t h n R := r0 (op_len_sl ho hx hu) hdd hd hg w
theorem dll {m : Nat} (ho : o.op = .call { callee := .builtin .len, args := #[x], argTypes := #[ty] }) (hu : E.P.underlying ty = some (.slice ty')) (hx : lenV (E.eval t x) = some m) {d : Nat} (hdd : o.dst = some d) (hd : Nat.blt d sz = true) (hg : guardV ops t o = some true) (w : WD E sz ops bl (⟨false, .int .i64 m, [], false, [], n, n⟩ :: pre) l (upd t d (.int .i64 m)) h n R) : WD E sz ops bl pre (o :: l) t h n R := d0 (op_len_sl ho hx hu) hdd hd hg w
theorem rixsK {i : Nat} (ho : o.op = .index ty x y) (hx : E.eval t x = .str p) (hy : E.eval t y = .int k a) (hu : E.P.underlying ty = some .string) (h0 : 0 ≤ a) (h1 : a < p.size) (hi : a.toNat = i) {d : Nat} (hdd : o.dst = some d) (hd : Nat.blt d sz = true) (hg : guardV ops t o = some true) (w : WR E sz ops l (upd t d (.int .u8 (bt p i))) h n R) : WR E sz ops (o :: l) t h n R := r0 ((op_index_str ho hx hy hu h0 h1).to (by rw [hi])) hdd hd hg w
theorem rixs (ho : o.op = .index ty x y) (hx : E.eval t x = .str p) (hy : E.eval t y = .int k a) (hu : E.P.underlying ty = some .string) (h0 : 0 ≤ a) (h1 : a < p.size) {d : Nat} (hdd : o.dst = some d) (hd : Nat.blt d sz = true) (hg : guardV ops t o = some true) (w : WR E sz ops l (upd t d (.int .u8 (bt p a.toNat))) h n R) : WR E sz ops (o :: l) t h n R := r0 (op_index_str ho hx hy hu h0 h1) hdd hd hg w
theorem rfa {f off s i j m : Nat} {r : Bool} (ho : o.op = .fieldAddr ty x f) (hx : E.eval t x = .ptr i j m) (hf : fieldP E.P ty f = some (off, s, r)) (hk : s ≠ 0) {d : Nat} (hdd : o.dst = some d) (hd : Nat.blt d sz = true) (hg : guardV ops t o = some true) (w : WR E sz ops l (upd t d (.ptr i j (m + off))) h n R) : WR E sz ops (o :: l) t h n R := r0 (op_fieldAddr ho hx hf hk) hdd hd hg w
theorem dfa {f off s i j m : Nat} {r : Bool} (ho : o.op = .fieldAddr ty x f) (hx : E.eval t x = .ptr i j m) (hf : fieldP E.P ty f = some (off, s, r)) (hk : s ≠ 0) {d : Nat} (hdd : o.dst = some d) (hd : Nat.blt d sz = true) (hg : guardV ops t o = some true) (w : WD E sz ops bl (⟨false, .ptr i j (m + off), [], false, [], n, n⟩ :: pre) l (upd t d (.ptr i j (m + off))) h n R) : WD E sz ops bl pre (o :: l) t h n R := d0 (op_fieldAddr ho hx hf hk) hdd hd hg w
theorem rfai {f off s : Nat} {fr r : Bool} {cs cs' : List T} (ho : o.op = .fieldAddr ty x f) (hx : E.eval t x = .iptr fr cs) (hf : fieldP E.P ty f = some (off, s, r)) (hk : s ≠ 0) (hv : cs.drop off = cs') {d : Nat} (hdd : o.dst = some d) (hd : Nat.blt d sz = true) (hg : guardV ops t o = some true) (w : WR E sz ops l (upd t d (.iptr fr cs')) h n R) : WR E sz ops (o :: l) t h n R := r0 ((op_fieldAddr_i ho hx hf hk).to (by rw [hv])) hdd hd hg w
theorem dfai {f off s : Nat} {fr r : Bool} {cs cs' : List T} (ho : o.op = .fieldAddr ty x f) (hx : E.eval t x = .iptr fr cs) (hf : fieldP E.P ty f = some (off, s, r)) (hk : s ≠ 0) (hv : cs.drop off = cs') {d : Nat} (hdd : o.dst = some d) (hd : Nat.blt d sz = true) (hg : guardV ops t o = some true) (w : WD E sz ops bl (⟨false, .iptr fr cs', [], false, [], n, n⟩ :: pre) l (upd t d (.iptr fr cs')) h n R) : WD E sz ops bl pre (o :: l) t h n R := d0 ((op_fieldAddr_i ho hx hf hk).to (by rw [hv])) hdd hd hg w
theorem rbd {ps : Array (Nat × Operand)} {cs : List V} (ho : o.op = .build ty ps) (hb : buildV E t ty ps = some cs) {d : Nat} (hdd : o.dst = some d) (hd : Nat.blt d sz = true) (hg : guardV ops t o = some true) (w : WR E sz ops l (upd t d (.agg cs)) h n R) : WR E sz ops (o :: l) t h n R := r0 (op_build ho hb) hdd hd hg w
theorem dbd {ps : Array (Nat × Operand)} {cs : List V} (ho : o.op = .build ty ps) (hb : buildV E t ty ps = some cs) {d : Nat} (hdd : o.dst = some d) (hd : Nat.blt d sz = true) (hg : guardV ops t o = some true) (w : WD E sz ops bl (⟨false, .agg cs, [], false, [], n, n⟩ :: pre) l (upd t d (.agg cs)) h n R) : WD E sz ops bl pre (o :: l) t h n R := d0 (op_build ho hb) hdd hd hg w
theorem rixl {fr nn : Bool} {es : List (List T)} {cs : List T} {e : TypeId} {s : Nat} (ho : o.op = .indexAddr ty x y) (hx : E.eval t x = .sl fr nn es) (hy : E.eval t y = .int k a) (hs : sliceP E.P ty = some (e, s)) (h0 : 0 ≤ a) (hi : es[a.toNat]? = some cs) (hcl : cs.length = s) {d : Nat} (hdd : o.dst = some d) (hd : Nat.blt d sz = true) (hg : guardV ops t o = some true) (w : WR E sz ops l (upd t d (.iptr fr cs)) h n R) : WR E sz ops (o :: l) t h n R := r0 (op_index_sl ho hx hy hs h0 hi hcl) hdd hd hg w
theorem dixl {fr nn : Bool} {es : List (List T)} {cs : List T} {e : TypeId} {s : Nat} (ho : o.op = .indexAddr ty x y) (hx : E.eval t x = .sl fr nn es) (hy : E.eval t y = .int k a) (hs : sliceP E.P ty = some (e, s)) (h0 : 0 ≤ a) (hi : es[a.toNat]? = some cs) (hcl : cs.length = s) {d : Nat} (hdd : o.dst = some d) (hd : Nat.blt d sz = true) (hg : guardV ops t o = some true) (w : WD E sz ops bl (⟨false, .iptr fr cs, [], false, [], n, n⟩ :: pre) l (upd t d (.iptr fr cs)) h n R) : WD E sz ops bl pre (o :: l) t h n R := d0 (op_index_sl ho hx hy hs h0 hi hcl) hdd hd hg w
theorem rlir {fr : Bool} {s : Nat} {cs : List T} {vs : List V} (ho : o.op = .load ty x) (hx : E.eval t x = .iptr fr cs) (hr : rowP E.P ty = some (true, s)) (hl : s ≤ cs.length) (hv : (cs.take s).map (T.toV fr) = vs) {d : Nat} (hdd : o.dst = some d) (hd : Nat.blt d sz = true) (hg : guardV ops t o = some true) (w : WR E sz ops l (upd t d (.agg vs)) h n R) : WR E sz ops (o :: l) t h n R := r0 ((op_load_irow ho hx hr hl).to (by rw [hv])) hdd hd hg w
theorem dlir {fr : Bool} {s : Nat} {cs : List T} {vs : List V} (ho : o.op = .load ty x) (hx : E.eval t x = .iptr fr cs) (hr : rowP E.P ty = some (true, s)) (hl : s ≤ cs.length) (hv : (cs.take s).map (T.toV fr) = vs) {d : Nat} (hdd : o.dst = some d) (hd : Nat.blt d sz = true) (hg : guardV ops t o = some true) (w : WD E sz ops bl (⟨false, .agg vs, [], false, [], n, n⟩ :: pre) l (upd t d (.agg vs)) h n R) : WD E sz ops bl pre (o :: l) t h n R := d0 ((op_load_irow ho hx hr hl).to (by rw [hv])) hdd hd hg w
theorem rlic {fr : Bool} {s : Nat} {cs : List T} {u : T} (ho : o.op = .load ty x) (hx : E.eval t x = .iptr fr cs) (hr : rowP E.P ty = some (false, s)) (hl : cs[0]? = some u) (hv : u.toV fr = v) {d : Nat} (hdd : o.dst = some d) (hd : Nat.blt d sz = true) (hg : guardV ops t o = some true) (w : WR E sz ops l (upd t d (v)) h n R) : WR E sz ops (o :: l) t h n R := r0 ((op_load_icell ho hx hr hl).to hv) hdd hd hg w
theorem dlic {fr : Bool} {s : Nat} {cs : List T} {u : T} (ho : o.op = .load ty x) (hx : E.eval t x = .iptr fr cs) (hr : rowP E.P ty = some (false, s)) (hl : cs[0]? = some u) (hv : u.toV fr = v) {d : Nat} (hdd : o.dst = some d) (hd : Nat.blt d sz = true) (hg : guardV ops t o = some true) (w : WD E sz ops bl (⟨false, v, [], false, [], n, n⟩ :: pre) l (upd t d (v)) h n R) : WD E sz ops bl pre (o :: l) t h n R := d0 ((op_load_icell ho hx hr hl).to hv) hdd hd hg w
theorem rnil {c : Bool} {e : TypeId} {i j : Nat} (ho : o.op = .binOp .eql ty x (.const (.slice none i j)) ty') (hu : E.P.underlying ty = some (.slice e)) (hx : nilV (E.eval t x) = some c) {d : Nat} (hdd : o.dst = some d) (hd : Nat.blt d sz = true) (hg : guardV ops t o = some true) (w : WR E sz ops l (upd t d (.bool c)) h n R) : WR E sz ops (o :: l) t h n R := r0 ((op_isnil ho (by simp) hu hx).to (by simp)) hdd hd hg w
theorem rlr {i j m s : Nat} {B : Blk} {cs vs : List V} (ho : o.op = .load ty x) (hx : E.eval t x = .ptr i j m) (hb : h i = some B) (hi : B.es[j]? = some cs) (hr : rowP E.P ty = some (true, s)) (hl : m + s ≤ cs.length) (hv : (cs.drop m).take s = vs) {d : Nat} (hdd : o.dst = some d) (hd : Nat.blt d sz = true) (hg : guardV ops t o = some true) (w : WR E sz ops l (upd t d (.agg vs)) h n R) : WR E sz ops (o :: l) t h n R := r0 ((op_load_row ho hx hb hi hr hl).to (by rw [hv])) hdd hd hg w
theorem dlr {i j m s : Nat} {B : Blk} {cs vs : List V} (ho : o.op = .load ty x) (hx : E.eval t x = .ptr i j m) (hb : h i = some B) (hi : B.es[j]? = some cs) (hr : rowP E.P ty = some (true, s)) (hl : m + s ≤ cs.length) (hv : (cs.drop m).take s = vs) {d : Nat} (hdd : o.dst = some d) (hd : Nat.blt d sz = true) (hg : guardV ops t o = some true) (w : WD E sz ops bl (⟨false, .agg vs, [i], false, [], n, n⟩ :: pre) l (upd t d (.agg vs)) h n R) : WD E sz ops bl pre (o :: l) t h n R := d0 ((op_load_row ho hx hb hi hr hl).to (by rw [hv])) hdd hd hg w
theorem rlc {i j m s : Nat} {B : Blk} {cs : List V} (ho : o.op = .load ty x) (hx : E.eval t x = .ptr i j m) (hb : h i = some B) (hi : B.es[j]? = some cs) (hr : rowP E.P ty = some (false, s)) (hl : cs[m]? = some v) {d : Nat} (hdd : o.dst = some d) (hd : Nat.blt d sz = true) (hg : guardV ops t o = some true) (w : WR E sz ops l (upd t d (v)) h n R) : WR E sz ops (o :: l) t h n R := r0 (op_load_cell ho hx hb hi hr hl) hdd hd hg w
theorem dlc {i j m s : Nat} {B : Blk} {cs : List V} (ho : o.op = .load ty x) (hx : E.eval t x = .ptr i j m) (hb : h i = some B) (hi : B.es[j]? = some cs) (hr : rowP E.P ty = some (false, s)) (hl : cs[m]? = some v) {d : Nat} (hdd : o.dst = some d) (hd : Nat.blt d sz = true) (hg : guardV ops t o = some true) (w : WD E sz ops bl (⟨false, v, [i], false, [], n, n⟩ :: pre) l (upd t d (v)) h n R) : WD E sz ops bl pre (o :: l) t h n R := d0 (op_load_cell ho hx hb hi hr hl) hdd hd hg w
theorem rst {i j m s : Nat} {B : Blk} {cs ys : List V} {r : Bool} {u : V} (ho : o.op = .store ty x y) (hx : E.eval t x = .ptr i j m) (hy : E.eval t y = u) (hb : h i = some B) (hi : B.es[j]? = some cs) (hr : rowP E.P ty = some (r, s)) (hk : u.known = true) (hkl : u.cells.length = s) (hc : u.cells.all V.cell = true) (hl : m + s ≤ cs.length) (hs : splice cs m u.cells = ys) (hdd : o.dst = none) (hg : guardV ops t o = some true) (w : WR E sz ops l t (app [(i, some { B with es := B.es.set j ys })] h) n R) : WR E sz ops (o :: l) t h n R := rOp (op_st ho hx hy hb hi hr hk hkl hc hl hs) (by rw [hdd]; rfl) hg (Nat.le_refl _) (fun h => by simp at h) (by rw [hdd]; exact w)
theorem dst {i j m s : Nat} {B : Blk} {cs ys : List V} {r : Bool} {u : V} (ho : o.op = .store ty x y) (hx : E.eval t x = .ptr i j m) (hy : E.eval t y = u) (hb : h i = some B) (hi : B.es[j]? = some cs) (hr : rowP E.P ty = some (r, s)) (hk : u.known = true) (hkl : u.cells.length = s) (hc : u.cells.all V.cell = true) (hl : m + s ≤ cs.length) (hs : splice cs m u.cells = ys) (hdd : o.dst = none) (hg : guardV ops t o = some true) (w : WD E sz ops bl (⟨false, .unk, [i], false, [(i, some { B with es := B.es.set j ys })], n, n⟩ :: pre) l t (app [(i, some { B with es := B.es.set j ys })] h) n R) : WD E sz ops bl pre (o :: l) t h n R := dOp (op_st ho hx hy hb hi hr hk hkl hc hl hs) (by rw [hdd]; rfl) hg (Nat.le_refl _) (fun h => by simp at h) (by rw [hdd]; exact w)
theorem ral {zs : List V} (ho : o.op = .alloc ty) (hz : zeroV E.P ty = some zs) (hc : zs.all V.cell = true) {d : Nat} (hdd : o.dst = some d) (hd : Nat.blt d sz = true) (hg : guardV ops t o = some true) (w : WR E sz ops l (upd t d (.ptr n 0 0)) (app [(n, some ⟨[zs], zs.length, ty⟩)] h) (n + 1) R) : WR E sz ops (o :: l) t h n R := rOpD (op_alloc ho hz hc) hdd hd hg (by omega) (fun h => by simp at h) w
theorem dal {zs : List V} (ho : o.op = .alloc ty) (hz : zeroV E.P ty = some zs) (hc : zs.all V.cell = true) {d : Nat} (hdd : o.dst = some d) (hd : Nat.blt d sz = true) (hg : guardV ops t o = some true) (w : WD E sz ops bl (⟨false, .ptr n 0 0, [], false, [(n, some ⟨[zs], zs.length, ty⟩)], n, n + 1⟩ :: pre) l (upd t d (.ptr n 0 0)) (app [(n, some ⟨[zs], zs.length, ty⟩)] h) (n + 1) R) : WD E sz ops bl pre (o :: l) t h n R := dOpD (op_alloc ho hz hc) hdd hd hg (by omega) (fun h => by simp at h) w
theorem rbx {u : V} (ho : o.op = .box ty x) (hx : E.eval t x = u) (hk : u.known = true) (hc : u.cells.all V.cell = true) {d : Nat} (hdd : o.dst = some d) (hd : Nat.blt d sz = true) (hg : guardV ops t o = some true) (w : WR E sz ops l (upd t d (.ptr n 0 0)) (app [(n, some ⟨[u.cells], u.cells.length, ty⟩)] h) (n + 1) R) : WR E sz ops (o :: l) t h n R := rOpD (by subst hx; exact op_box ho hk hc) hdd hd hg (by omega) (fun h => by simp at h) w
theorem rbs {m s : Nat} {ps : Array (Nat × Operand)} {zs : List V} {es : List (List V)} {e : TypeId} (ho : o.op = .buildSlice ty m ps) (hs : sliceP E.P ty = some (e, s)) (hz : zeroV E.P e = some zs) (hzs : zs.length = s) (h0 : s ≠ 0) (hb : m * s ≤ 16777216) (hl : litV E t s (List.replicate m zs) ps.toList = some es) (hc : (es.all fun x => x.all V.cell) = true) {d : Nat} (hdd : o.dst = some d) (hd : Nat.blt d sz = true) (hg : guardV ops t o = some true) (w : WR E sz ops l (upd t d (.view n 0 m)) (app [(n, some ⟨es, s, e⟩)] h) (n + 1) R) : WR E sz ops (o :: l) t h n R := rOpD (op_buildSlice ho hs hz hzs h0 hb hl hc) hdd hd hg (by omega) (fun h => by simp at h) w
theorem dbs {m s : Nat} {ps : Array (Nat × Operand)} {zs : List V} {es : List (List V)} {e : TypeId} (ho : o.op = .buildSlice ty m ps) (hs : sliceP E.P ty = some (e, s)) (hz : zeroV E.P e = some zs) (hzs : zs.length = s) (h0 : s ≠ 0) (hb : m * s ≤ 16777216) (hl : litV E t s (List.replicate m zs) ps.toList = some es) (hc : (es.all fun x => x.all V.cell) = true) {d : Nat} (hdd : o.dst = some d) (hd : Nat.blt d sz = true) (hg : guardV ops t o = some true) (w : WD E sz ops bl (⟨false, .view n 0 m, [], false, [(n, some ⟨es, s, e⟩)], n, n + 1⟩ :: pre) l (upd t d (.view n 0 m)) (app [(n, some ⟨es, s, e⟩)] h) (n + 1) R) : WD E sz ops bl pre (o :: l) t h n R := dOpD (op_buildSlice ho hs hz hzs h0 hb hl hc) hdd hd hg (by omega) (fun h => by simp at h) w
theorem rap {s s' i j m : Nat} {B : Blk} {es : List (List V)} {e : TypeId} (ho : o.op = .call { callee := .builtin .append, args := #[x, y], argTypes := #[ty, ty'] }) (hx : E.eval t x = .view i j m) (hb : h i = some B) (hbz : B.sz = s) (hbt : B.ty = e) (hfull : j + m = B.es.length) (hs : elemP E.P ty = some (e, s, s')) (htx : srcP E.P ty' = true) (h0 : s ≠ 0) (hy : srcV h (E.eval t y) = some es) (hyz : ∀ c ∈ es, c.length = s) (hbd : (m + es.length) * s' ≤ 140737488355328) (hl : m + es.length ≤ 9223372036854775807) {d : Nat} (hdd : o.dst = some d) (hd : Nat.blt d sz = true) (hg : guardV ops t o = some true) (w : WR E sz ops l (upd t d (.view n 0 (m + es.length))) (app [(i, none), (n, some ⟨B.es.drop j ++ es, s, e⟩)] h) (n + 1) R) : WR E sz ops (o :: l) t h n R := rOpD (op_append_view ho hx hb hbz hbt hfull hs htx h0 hy hyz hbd hl) hdd hd hg (by omega) (fun h => by simp at h) w
theorem dap {s s' i j m : Nat} {B : Blk} {es : List (List V)} {e : TypeId} (ho : o.op = .call { callee := .builtin .append, args := #[x, y], argTypes := #[ty, ty'] }) (hx : E.eval t x = .view i j m) (hb : h i = some B) (hbz : B.sz = s) (hbt : B.ty = e) (hfull : j + m = B.es.length) (hs : elemP E.P ty = some (e, s, s')) (htx : srcP E.P ty' = true) (h0 : s ≠ 0) (hy : srcV h (E.eval t y) = some es) (hyz : ∀ c ∈ es, c.length = s) (hbd : (m + es.length) * s' ≤ 140737488355328) (hl : m + es.length ≤ 9223372036854775807) {d : Nat} (hdd : o.dst = some d) (hd : Nat.blt d sz = true) (hg : guardV ops t o = some true) (w : WD E sz ops bl (⟨false, .view n 0 (m + es.length), (i :: srcIds (E.eval t y)), false, [(i, none), (n, some ⟨B.es.drop j ++ es, s, e⟩)], n, n + 1⟩ :: pre) l (upd t d (.view n 0 (m + es.length))) (app [(i, none), (n, some ⟨B.es.drop j ++ es, s, e⟩)] h) (n + 1) R) : WD E sz ops bl pre (o :: l) t h n R := dOpD (op_append_view ho hx hb hbz hbt hfull hs htx h0 hy hyz hbd hl) hdd hd hg (by omega) (fun h => by simp at h) w
theorem ran {s s' : Nat} {es : List (List V)} {e : TypeId} (ho : o.op = .call { callee := .builtin .append, args := #[x, y], argTypes := #[ty, ty'] }) (hx : E.eval t x = .nsl) (hs : elemP E.P ty = some (e, s, s')) (htx : srcP E.P ty' = true) (h0 : s ≠ 0) (hy : srcV h (E.eval t y) = some es) (hyz : ∀ c ∈ es, c.length = s) (hne : 0 < es.length) (hbd : es.length * s' ≤ 140737488355328) (hl : es.length ≤ 9223372036854775807) {d : Nat} (hdd : o.dst = some d) (hd : Nat.blt d sz = true) (hg : guardV ops t o = some true) (w : WR E sz ops l (upd t d (.view n 0 es.length)) (app [(n, some ⟨es, s, e⟩)] h) (n + 1) R) : WR E sz ops (o :: l) t h n R := rOpD (op_append_nil ho hx hs htx h0 hy hyz hne hbd hl) hdd hd hg (by omega) (fun h => by simp at h) w
theorem rmk {k' : IntKind} {m s s' : Nat} {zs : List V} {e : TypeId} (ho : o.op = .makeSlice ty x y) (hx : E.eval t x = .int k m) (hy : E.eval t y = .int k' m) (hs : elemP E.P ty = some (e, s, s')) (hz : zeroV E.P e = some zs) (hc : zs.all V.cell = true) (h0 : s ≠ 0) (hb : s' * m ≤ 281474976710656) (hl : m ≤ 9223372036854775807) {d : Nat} (hdd : o.dst = some d) (hd : Nat.blt d sz = true) (hg : guardV ops t o = some true) (w : WR E sz ops l (upd t d (.view n 0 m)) (app [(n, some ⟨List.replicate m zs, s, e⟩)] h) (n + 1) R) : WR E sz ops (o :: l) t h n R := rOpD (op_make ho hx hy hs hz hc h0 hb hl) hdd hd hg (by omega) (fun h => by simp at h) w
theorem res {i m : Nat} {B : Blk} {kv vv u : V} (ho : o.op = .entryStore ty x y z) (hx : E.eval t x = .map i) (hy : E.eval t y = .int .i64 m) (hz : E.eval t z = u) (hb : h i = some B) (hi : B.es[m]? = some [kv, vv]) (hdd : o.dst = none) (hg : guardV ops t o = some true) (w : WR E sz ops l t (app [(i, some { B with es := B.es.set m [kv, u] })] h) n R) : WR E sz ops (o :: l) t h n R := rOp (op_entryStore ho hx hy hz hb hi) (by rw [hdd]; rfl) hg (Nat.le_refl _) (fun h => by simp at h) (by rw [hdd]; exact w)
theorem rsg {e : TypeId} {es : List (List V)} {bs : List Int} (ho : o.op = .convert ty ty' x) (hsr : E.P.underlying ty = some (.slice e)) (he : E.P.underlying e = some (.int .u8)) (hds : E.P.underlying ty' = some .string) (hy : srcV h (E.eval t x) = some es) (hns : ∀ s, E.eval t x ≠ .str s) (hb : es = bs.map fun b => [.int .u8 b]) {d : Nat} (hdd : o.dst = some d) (hd : Nat.blt d sz = true) (hg : guardV ops t o = some true) (w : WR E sz ops l (upd t d (.str (strOf bs))) h n R) : WR E sz ops (o :: l) t h n R := r0 (op_string ho hsr he hds hy hns hb) hdd hd hg w
theorem rixv {e : TypeId} {i j m s : Nat} {B : Blk} (ho : o.op = .indexAddr ty x y) (hx : E.eval t x = .view i j m) (hy : E.eval t y = .int k a) (hs : sliceP E.P ty = some (e, s)) (hb : h i = some B) (hbz : B.sz = s) (h0 : 0 ≤ a) (h1 : a < m) {d : Nat} (hdd : o.dst = some d) (hd : Nat.blt d sz = true) (hg : guardV ops t o = some true) (w : WR E sz ops l (upd t d (.ptr i (j + a.toNat) 0)) h n R) : WR E sz ops (o :: l) t h n R := r0 (op_index_view ho hx hy hs hb hbz h0 h1) hdd hd hg w
theorem dixv {e : TypeId} {i j m s : Nat} {B : Blk} (ho : o.op = .indexAddr ty x y) (hx : E.eval t x = .view i j m) (hy : E.eval t y = .int k a) (hs : sliceP E.P ty = some (e, s)) (hb : h i = some B) (hbz : B.sz = s) (h0 : 0 ≤ a) (h1 : a < m) {d : Nat} (hdd : o.dst = some d) (hd : Nat.blt d sz = true) (hg : guardV ops t o = some true) (w : WD E sz ops bl (⟨false, .ptr i (j + a.toNat) 0, [i], false, [], n, n⟩ :: pre) l (upd t d (.ptr i (j + a.toNat) 0)) h n R) : WD E sz ops bl pre (o :: l) t h n R := d0 (op_index_view ho hx hy hs hb hbz h0 h1) hdd hd hg w
theorem rslv {lo hi : Option Operand} {e : TypeId} {i j m s : Nat} {B : Blk} (ho : o.op = .slice ty x lo hi none) (hx : E.eval t x = .view i j m) (hs : sliceP E.P ty = some (e, s)) (hb : h i = some B) (hbz : B.sz = s) (hl : bndV E t lo 0 = some a) (hr : bndV E t hi m = some b) (h0 : 0 ≤ a) (h1 : a ≤ b) (h2 : b ≤ m) {d : Nat} (hdd : o.dst = some d) (hd : Nat.blt d sz = true) (hg : guardV ops t o = some true) (w : WR E sz ops l (upd t d (.view i (j + a.toNat) (b.toNat - a.toNat))) h n R) : WR E sz ops (o :: l) t h n R := r0 (op_slice_view ho hx hs hb hbz hl hr h0 h1 h2) hdd hd hg w
theorem rmax {tys : Array TypeId} (ho : o.op = .call { callee := .builtin .max, args := #[x, y], argTypes := tys }) (hx : E.eval t x = .int k a) (hy : E.eval t y = .int k b) {d : Nat} (hdd : o.dst = some d) (hd : Nat.blt d sz = true) (hg : guardV ops t o = some true) (w : WR E sz ops l (upd t d (.int k (max a b))) h n R) : WR E sz ops (o :: l) t h n R := r0 (op_max ho hx hy) hdd hd hg w
theorem rcl {tys : Array TypeId} {f : FuncId} {args : Array Operand} {as rs : List A} (hpure : Pure E f as rs) (ho : o.op = .call { callee := .value z, args := args, argTypes := tys }) (hc : E.eval t z = .clo f []) (hs : dataL false (args.toList.map (E.eval t)) = some as) {d : Nat} (hdd : o.dst = some d) (hd : Nat.blt d sz = true) (hg : guardV ops t o = some true) (w : WR E sz ops l (upd t d (retV true rs)) h n R) : WR E sz ops (o :: l) t h n R := r0 (op_callD ho hc hs hpure) hdd hd hg w
theorem rclS {tys : Array TypeId} {f : FuncId} {args : Array Operand} {as rs : List A} {vs : List V} (ids : List Nat) (hpure : Pure E f as rs) (ho : o.op = .call { callee := .value z, args := args, argTypes := tys }) (hc : E.eval t z = .clo f []) (hv : args.toList.map (E.eval t) = vs) (hs : SnapL h ids false vs as) {d : Nat} (hdd : o.dst = some d) (hd : Nat.blt d sz = true) (hg : guardV ops t o = some true) (w : WR E sz ops l (upd t d (retV true rs)) h n R) : WR E sz ops (o :: l) t h n R := r0 (op_callS ho hc hv hs hpure) hdd hd hg w
theorem rclP {tys : Array TypeId} {f : FuncId} {args : Array Operand} {as : List A} {c : Prop} [Decidable c] (hpure : Pure E f as [.one (.bool (decide c))]) (ho : o.op = .call { callee := .value z, args := args, argTypes := tys }) (hc : E.eval t z = .clo f []) (hs : dataL false (args.toList.map (E.eval t)) = some as) {d : Nat} (hdd : o.dst = some d) (hd : Nat.blt d sz = true) (hg : guardV ops t o = some true) (w1 : c → WR E sz ops l (upd t d (.bool true)) h n R) (w2 : ¬ c → WR E sz ops l (upd t d (.bool false)) h n R) : WR E sz ops (o :: l) t h n R := by
  have ho2 := OpOK.case (c := c) (h := h) (n := n) (op_callD ho hc hs hpure)
  by_cases hc2 : c
  · exact r0 (ho2.1 hc2) hdd hd hg (w1 hc2)
  · exact r0 (ho2.2 hc2) hdd hd hg (w2 hc2)
theorem rop {tys : Array TypeId} {f : FuncId} {args : Array Operand} {caps vs : List V} {wr : List (Nat × Option Blk)} {n1 : Nat} (hop : Open E f vs h n v wr n1) (ho : o.op = .call { callee := .value z, args := args, argTypes := tys }) (hc : E.eval t z = .clo f caps) (hv : args.toList.map (E.eval t) ++ caps = vs) {d : Nat} (hdd : o.dst = some d) (hd : Nat.blt d sz = true) (hg : guardV ops t o = some true) (w : WR E sz ops l (upd t d v) (app wr h) n1 R) : WR E sz ops (o :: l) t h n R := rOpD (op_open ho hc (by rw [hv]; exact hop)) hdd hd hg hop.le (fun _ h => by simp at h) w
theorem dcl {tys : Array TypeId} {f : FuncId} {args : Array Operand} {as rs : List A} (hpure : Pure E f as rs) (ho : o.op = .call { callee := .value z, args := args, argTypes := tys }) (hc : E.eval t z = .clo f []) (hs : dataL false (args.toList.map (E.eval t)) = some as) {d : Nat} (hdd : o.dst = some d) (hd : Nat.blt d sz = true) (hg : guardV ops t o = some true) (w : WD E sz ops bl (⟨false, retV true rs, [], false, [], n, n⟩ :: pre) l (upd t d (retV true rs)) h n R) : WD E sz ops bl pre (o :: l) t h n R := d0 (op_callD ho hc hs hpure) hdd hd hg w
theorem dclS {tys : Array TypeId} {f : FuncId} {args : Array Operand} {as rs : List A} {vs : List V} (ids : List Nat) (hpure : Pure E f as rs) (ho : o.op = .call { callee := .value z, args := args, argTypes := tys }) (hc : E.eval t z = .clo f []) (hv : args.toList.map (E.eval t) = vs) (hs : SnapL h ids false vs as) {d : Nat} (hdd : o.dst = some d) (hd : Nat.blt d sz = true) (hg : guardV ops t o = some true) (w : WD E sz ops bl (⟨false, retV true rs, ids, false, [], n, n⟩ :: pre) l (upd t d (retV true rs)) h n R) : WD E sz ops bl pre (o :: l) t h n R := d0 (op_callS ho hc hv hs hpure) hdd hd hg w
theorem dclP {tys : Array TypeId} {f : FuncId} {args : Array Operand} {as : List A} {c : Prop} [Decidable c] (hpure : Pure E f as [.one (.bool (decide c))]) (ho : o.op = .call { callee := .value z, args := args, argTypes := tys }) (hc : E.eval t z = .clo f []) (hs : dataL false (args.toList.map (E.eval t)) = some as) {d : Nat} (hdd : o.dst = some d) (hd : Nat.blt d sz = true) (hg : guardV ops t o = some true) (w1 : c → WD E sz ops bl (⟨false, .bool true, [], false, [], n, n⟩ :: pre) l (upd t d (.bool true)) h n R) (w2 : ¬ c → WD E sz ops bl (⟨false, .bool false, [], false, [], n, n⟩ :: pre) l (upd t d (.bool false)) h n R) : WD E sz ops bl pre (o :: l) t h n R := by
  have ho2 := OpOK.case (c := c) (h := h) (n := n) (op_callD ho hc hs hpure)
  by_cases hc2 : c
  · exact d0 (ho2.1 hc2) hdd hd hg (w1 hc2)
  · exact d0 (ho2.2 hc2) hdd hd hg (w2 hc2)
theorem ropB {tys : Array TypeId} {f : FuncId} {args : Array Operand} {caps vs : List V} {wr : List (Nat × Option Blk)} {n1 : Nat} {c : Bool} (hop : Open E f vs h n (.bool c) wr n1) (ho : o.op = .call { callee := .value z, args := args, argTypes := tys }) (hc : E.eval t z = .clo f caps) (hv : args.toList.map (E.eval t) ++ caps = vs) {d : Nat} (hdd : o.dst = some d) (hd : Nat.blt d sz = true) (hg : guardV ops t o = some true) (w1 : c = true → WR E sz ops l (upd t d (.bool true)) (app wr h) n1 R) (w2 : c = false → WR E sz ops l (upd t d (.bool false)) (app wr h) n1 R) : WR E sz ops (o :: l) t h n R := by
  cases hc2 : c
  · rw [hc2] at hop; exact rop hop ho hc hv hdd hd hg (w2 hc2)
  · rw [hc2] at hop; exact rop hop ho hc hv hdd hd hg (w1 hc2)
theorem rclX {α : Type} {p : α → Prop} {tys : Array TypeId} {f : FuncId} {args : Array Operand} {as : List A} {rs : α → List A} (hpure : ∃ a, p a ∧ Pure E f as (rs a)) (ho : o.op = .call { callee := .value z, args := args, argTypes := tys }) (hc : E.eval t z = .clo f []) (hs : dataL false (args.toList.map (E.eval t)) = some as) {d : Nat} (hdd : o.dst = some d) (hd : Nat.blt d sz = true) (hg : guardV ops t o = some true) (w : ∀ a, p a → WR E sz ops l (upd t d (retV true (rs a))) h n R) : WR E sz ops (o :: l) t h n R := by
  obtain ⟨a, h1, h2⟩ := hpure
  exact rcl h2 ho hc hs hdd hd hg (w a h1)
end rules
end Go.V
