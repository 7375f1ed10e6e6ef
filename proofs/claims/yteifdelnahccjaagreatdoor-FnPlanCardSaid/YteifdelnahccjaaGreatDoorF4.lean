import Derived.ChangeArms
import Derived.DataReads
import Derived.Lib.AppendZerosOnto
import Derived.Test.YteifdelnahccjaaGreatDoorF3
namespace Go.V
open Go.RowKit (Below)
set_option linter.unusedSimpArgs false
set_option linter.unusedVariables false
abbrev EK := V → List Nat → Bool → Option (List (Nat × Option Blk)) → Nat → Prop
structure Eff (E : Env) (o : Oper) (t : Nat → V) (h : Heap) (n : Nat) (K : EK) : Prop where
  out : ∃ v rd tot W n1, OpOK E o t h n rd tot v (W.getD []) n1 ∧ n ≤ n1 ∧ (W.getD [] = [] → tot = false → n = n1) ∧ K v rd tot W n1
structure Br (c A B : Prop) : Prop where
  t : c → A
  f : ¬ c → B
structure BrB (c : Bool) (A B : Prop) : Prop where
  t : c = true → A
  f : c = false → B
structure Sd (c A : Prop) : Prop where
  c : c
  a : A
structure Ld (b : Option Blk) (i j : Nat) (F : V → Prop) : Prop where
  out : ∃ x cs v, b = some x ∧ x.es[i]? = some cs ∧ cs[j]? = some v ∧ F v
structure Cv (m : Int) (F : Int → Prop) : Prop where
  out : F (IntKind.i64.wrap m)
structure Ar (m : Int) (F : Int → Prop) : Prop where
  out : F (IntKind.i64.wrap m)
structure Lit (m : Nat) (F : Nat → Prop) : Prop where
  out : ∃ i, m = i ∧ F i
structure Mem (b : Option Blk) (F : Blk → Prop) : Prop where
  out : ∃ x, b = some x ∧ F x
structure Rw (r : Option (List T)) (F : List T → Prop) : Prop where
  out : ∃ x, r = some x ∧ F x
structure Stop (h : Heap) (F : Heap → Prop) : Prop where
  out : F h
structure Clr (ops : Array Oper) (bl : List Nat) (pre : List Ef) (A : Prop) : Prop where
  c : ClearL pre.reverse (residE ops.size bl pre.reverse)
  a : A
theorem Eff.one {E : Env} {o : Oper} {t : Nat → V} {h : Heap} {n : Nat} {K : EK} {rd : List Nat} {v : V} (hop : OpOK E o t h n rd false v [] n) (w : K v rd false none n) : Eff E o t h n K :=
  ⟨⟨v, rd, false, none, n, hop, Nat.le_refl _, (fun _ _ => rfl), w⟩⟩
theorem Eff.two {E : Env} {o : Oper} {t : Nat → V} {h : Heap} {n : Nat} {K : EK} {rd : List Nat} {v : V} {b : Nat × Option Blk} {wr : List (Nat × Option Blk)} {n1 : Nat} (hop : OpOK E o t h n rd false v (b :: wr) n1) (hn : n ≤ n1) (w : K v rd false (some (b :: wr)) n1) : Eff E o t h n K :=
  ⟨⟨v, rd, false, some (b :: wr), n1, hop, hn, (fun e => by simp at e), w⟩⟩
theorem Eff.tot {E : Env} {o : Oper} {t : Nat → V} {h : Heap} {n : Nat} {K : EK} {rd : List Nat} {v : V} {wr : List (Nat × Option Blk)} {n1 : Nat} (hop : OpOK E o t h n rd true v wr n1) (hn : n ≤ n1) (w : K v rd true (some wr) n1) : Eff E o t h n K :=
  ⟨⟨v, rd, true, some wr, n1, hop, hn, (fun _ e => by cases e), w⟩⟩
theorem Eff.wr {E : Env} {o : Oper} {t : Nat → V} {h : Heap} {n : Nat} {K : EK} {rd : List Nat} {v : V} {wr : List (Nat × Option Blk)} {n1 : Nat} (hop : OpOK E o t h n rd false v wr n1) (hn : n ≤ n1) (hne : wr ≠ []) (w : K v rd false (some wr) n1) : Eff E o t h n K :=
  ⟨⟨v, rd, false, some wr, n1, hop, hn, (fun e _ => absurd e hne), w⟩⟩
def force (v : V) (K : V → Prop) : Prop := match v with
  | .bool b => K (.bool b)
  | .int k n => K (.int k n)
  | .str s => K (.str s)
  | .nilp => K .nilp
  | .nilf => K .nilf
  | .nsl => K .nsl
  | .sl fr nn es => K (.sl fr nn es)
  | .agg cs => K (.agg cs)
  | .view id off len => K (.view id off len)
  | .ptr id i j => K (.ptr id i j)
  | .map id => K (.map id)
  | .iptr fr cs => K (.iptr fr cs)
  | .clo f caps => K (.clo f caps)
  | .tup vs => K (.tup vs)
  | .unk => K .unk
  | .vcap id off len c => K (.vcap id off len c)
theorem F5 {v : V} {K : V → Prop} (h : force v K) : K v := by cases v <;> exact h
def forceL : List V → (List V → Prop) → Prop
  | [], K => K []
  | v :: r, K => force v fun v => forceL r fun r => K (v :: r)
theorem D9 : ∀ {l : List V} {K : List V → Prop}, forceL l K → K l
  | [], _, h => h
  | v :: r, K, h => D9 (l := r) (K := fun r => K (v :: r)) (F5 (K := fun v => forceL r fun r => K (v :: r)) h)
def forceT : List T → (List T → Prop) → Prop
  | [], K => K []
  | v :: r, K => forceT r fun r => K (v :: r)
theorem forceT_ok : ∀ {l : List T} {K : List T → Prop}, forceT l K → K l
  | [], _, h => h
  | v :: r, K, h => forceT_ok (l := r) (K := fun r => K (v :: r)) h
def got (v : V) (K : V → Prop) : Prop := match v with
  | .bool c => BrB c (K (.bool true)) (K (.bool false))
  | .agg cs => forceL cs fun cs => K (.agg cs)
  | .int k n => K (.int k n)
  | .str s => K (.str s)
  | v => force v K
theorem got_ok {v : V} {K : V → Prop} (h : got v K) : K v := by
  unfold got at h
  split at h
  · next c => cases c; exact h.2 rfl; exact h.1 rfl
  · exact D9 (K := fun cs => K (.agg cs)) h
  · exact h
  · exact h
  · exact F5 h
def sameK : IntKind → IntKind → Bool
  | .i64, .i64 => true
  | .u8, .u8 => true
  | .u32, .u32 => true
  | .i32, .i32 => true
  | .u64, .u64 => true
  | _, _ => false
theorem Y0 {a b : IntKind} (h : sameK a b = true) : a = b := by cases a <;> cases b <;> first | rfl | cases h
def fillK (place : Nat → Option (Nat × Nat)) : List (Nat × V) → List V → (List V → Prop) → Prop
  | [], cs, K => K cs
  | (i, v) :: r, cs, K => match place i with
    | some (off, size) => force v fun v => match v.known, Nat.beq v.cells.length size, Nat.ble (off + size) cs.length with
      | true, true, true => forceL (splice cs off v.cells) fun cs => fillK place r cs K
      | _, _, _ => False
    | none => False
theorem Y1 {place : Nat → Option (Nat × Nat)} {K : List V → Prop} : ∀ {ps : List (Nat × V)} {cs : List V}, fillK place ps cs K → ∃ cs', fillV place cs ps = some cs' ∧ K cs'
  | [], cs, h => ⟨cs, rfl, h⟩
  | (i, v) :: r, cs, h => by
    unfold fillK at h
    unfold fillV
    split at h
    · next hp =>
      rw [hp]
      have h := F5 h
      split at h
      · next h1 h2 h3 =>
        dsimp only
        rw [h1, Nat.eq_of_beq_eq_true h2, if_pos (by simp [Nat.le_of_ble_eq_true h3])]
        exact Y1 (D9 h)
      · exact h.elim
    · exact h.elim
section steps
variable (E : Env) (o : Oper) (t : Nat → V) (h : Heap) (n : Nat) (K : EK)
def K0 (v : V) : Prop := K v [] false none n
abbrev fits (a : Int) : Prop := -9223372036854775808 ≤ a ∧ a ≤ 9223372036854775807
def sPick (x y z : Operand) : Prop := match E.eval t x with
  | .bool c => match pickV c (E.eval t y) (E.eval t z) with
    | .bool true => K (.bool true) [] false none n
    | .bool false => K (.bool false) [] false none n
    | v => force v fun v => K v [] false none n
  | _ => Eff E o t h n K
def sUn (op : UnOp) (x : Operand) : Prop := match op, E.eval t x with
  | .not, .bool true => K (.bool false) [] false none n
  | .not, .bool false => K (.bool true) [] false none n
  | .xor, .int k a => K (.int k (bits .xor k (if k.signed then -1 else k.max) a)) [] false none n
  | .neg, .int k a => K (.int k (k.wrap (0 - a))) [] false none n
  | _, _ => Eff E o t h n K
def sInt (op : BinOp) (k : IntKind) (a b : Int) : Prop := match op with
  | .add => match k with | .i64 => Ar (a + b) (fun m => K (.int .i64 m) [] false none n) | k => K (.int k (k.wrap (a + b))) [] false none n
  | .sub => match k with | .i64 => Ar (a - b) (fun m => K (.int .i64 m) [] false none n) | k => K (.int k (k.wrap (a - b))) [] false none n
  | .mul => match k with | .i64 => Ar (a * b) (fun m => K (.int .i64 m) [] false none n) | k => K (.int k (k.wrap (a * b))) [] false none n
  | .and => K (.int k (bits .and k a b)) [] false none n
  | .or => K (.int k (bits .or k a b)) [] false none n
  | .xor => K (.int k (bits .xor k a b)) [] false none n
  | .andNot => K (.int k (bits .andNot k a b)) [] false none n
  | .quo => Sd (b ≠ 0) (K (.int k (k.wrap (a.tdiv b))) [] false none n)
  | .rem => Sd (b ≠ 0) (K (.int k (a.tmod b)) [] false none n)
  | .lss => Br (a < b) (K (.bool true) [] false none n) (K (.bool false) [] false none n)
  | .leq => Br (a ≤ b) (K (.bool true) [] false none n) (K (.bool false) [] false none n)
  | .gtr => Br (a > b) (K (.bool true) [] false none n) (K (.bool false) [] false none n)
  | .geq => Br (a ≥ b) (K (.bool true) [] false none n) (K (.bool false) [] false none n)
  | .eql => Br (a = b) (K (.bool true) [] false none n) (K (.bool false) [] false none n)
  | .neq => Br (a ≠ b) (K (.bool true) [] false none n) (K (.bool false) [] false none n)
  | _ => Eff E o t h n K
def sStr (op : BinOp) (p q : ByteArray) : Prop := match op with
  | .add => Sd (p.size + q.size ≤ 9223372036854775807) (K (.str (p ++ q)) [] false none n)
  | .eql => Br (p = q) (K (.bool true) [] false none n) (K (.bool false) [] false none n)
  | .neq => Br (p ≠ q) (K (.bool true) [] false none n) (K (.bool false) [] false none n)
  | .lss => BrB (Op.bytesLess p.toList q.toList) (K (.bool true) [] false none n) (K (.bool false) [] false none n)
  | .geq => BrB (!Op.bytesLess p.toList q.toList) (K (.bool true) [] false none n) (K (.bool false) [] false none n)
  | .leq => BrB (Op.bytesLess p.toList q.toList || p.toList == q.toList) (K (.bool true) [] false none n) (K (.bool false) [] false none n)
  | .gtr => BrB (!(Op.bytesLess p.toList q.toList || p.toList == q.toList)) (K (.bool true) [] false none n) (K (.bool false) [] false none n)
  | _ => Eff E o t h n K
def sBool (op : BinOp) (ty : TypeId) (a b : Bool) : Prop := match op, E.P.underlying ty with
  | .eql, some .bool => match a, b with
    | true, true => K (.bool true) [] false none n
    | false, false => K (.bool true) [] false none n
    | true, false => K (.bool false) [] false none n
    | false, true => K (.bool false) [] false none n
  | .neq, some .bool => match a, b with
    | true, true => K (.bool false) [] false none n
    | false, false => K (.bool false) [] false none n
    | true, false => K (.bool true) [] false none n
    | false, true => K (.bool true) [] false none n
  | _, _ => Eff E o t h n K
def sNilB (op : BinOp) (ty : TypeId) (b : Option Bool) : Prop := match op, E.P.underlying ty, b with
  | .eql, some (.slice _), some true => K (.bool true) [] false none n
  | .eql, some (.slice _), some false => K (.bool false) [] false none n
  | .neq, some (.slice _), some true => K (.bool false) [] false none n
  | .neq, some (.slice _), some false => K (.bool true) [] false none n
  | _, _, _ => Eff E o t h n K
def sBin (op : BinOp) (ty : TypeId) (x y : Operand) : Prop := match E.eval t x with
  | .int k a => match E.eval t y with
    | .int k2 b => match op with
      | .shl => Sd (0 ≤ b) (K (.int k (k.wrap (a * 2 ^ (min b.toNat k.bits)))) [] false none n)
      | .shr => Sd (0 ≤ b) (K (.int k (a.fdiv (2 ^ (min b.toNat k.bits)))) [] false none n)
      | op => match sameK k k2 with
        | true => sInt E o t h n K op k a b
        | false => Eff E o t h n K
    | _ => Eff E o t h n K
  | .str p => match E.eval t y with
    | .str q => sStr E o t h n K op p q
    | _ => Eff E o t h n K
  | .bool a => match E.eval t y with
    | .bool b => sBool E o t h n K op ty a b
    | _ => Eff E o t h n K
  | v => match y with
    | .const (.slice none _ _) => sNilB E o t h n K op ty (nilV v)
    | _ => Eff E o t h n K
def sConv (s d : TypeId) (x : Operand) : Prop := match E.eval t x with
  | .int k m => match E.P.underlying s, E.P.underlying d with
    | some _, some (.int .i64) => Cv m fun m => K (.int .i64 m) [] false none n
    | some _, some (.int k') => K (.int k' (k'.wrap m)) [] false none n
    | _, _ => Eff E o t h n K
  | _ => Eff E o t h n K
def sField (ty : TypeId) (x : Operand) (f : Nat) : Prop := match E.eval t x with
  | .agg cs => match fieldP E.P ty f with
    | some (off, s, r) => match Nat.ble (off + s) cs.length with
      | true => match partV cs off s r with
        | some v => got v fun v => K v [] false none n
        | none => Eff E o t h n K
      | false => Eff E o t h n K
    | none => Eff E o t h n K
  | _ => Eff E o t h n K
def sFieldA (ty : TypeId) (x : Operand) (f : Nat) : Prop := match E.eval t x with
  | .ptr id i j => match fieldP E.P ty f with
    | some (off, s + 1, r) => K (.ptr id i (j + off)) [] false none n
    | _ => Eff E o t h n K
  | .iptr fr cs => match fieldP E.P ty f with
    | some (off, s + 1, r) => forceT (cs.drop off) fun cs => K (.iptr fr cs) [] false none n
    | _ => Eff E o t h n K
  | _ => Eff E o t h n K
def sNil (x : Operand) : Prop := match E.eval t x with
  | .ptr id i j => K (.ptr id i j) [] false none n
  | .iptr fr cs => K (.iptr fr cs) [] false none n
  | .clo f c => K (.clo f c) [] false none n
  | _ => Eff E o t h n K
def sExt (x : Operand) (i : Nat) : Prop := match E.eval t x with
  | .tup vs => match vs[i]? with
    | some v => got v fun v => K v [] false none n
    | none => Eff E o t h n K
  | _ => Eff E o t h n K
def sFun (fn : Fn) (first caps : Array Operand) : Prop := match fn, first with
  | .func f, ⟨[]⟩ => forceL (caps.toList.map (E.eval t)) fun cs => K (.clo f cs) [] false none n
  | _, _ => Eff E o t h n K
def sIx (ty : TypeId) (x y : Operand) : Prop := match E.eval t x with
  | .str s => match E.P.underlying ty with
    | some .string => match y with
      | .const (.int _ (.ofNat i)) => Lit i fun i => Sd (i < s.size) (K (.int .u8 (bt s i)) [] false none n)
      | y => match E.eval t y with
        | .int k m => Sd (0 ≤ m ∧ m < s.size) (K (.int .u8 (bt s m.toNat)) [] false none n)
        | _ => Eff E o t h n K
    | _ => Eff E o t h n K
  | _ => Eff E o t h n K
def sLoad (ty : TypeId) (x : Operand) : Prop := match E.eval t x with
  | .iptr fr cs => match rowP E.P ty with
    | some (true, k) => match Nat.ble k cs.length with
      | true => forceL ((cs.take k).map (T.toV fr)) fun vs => K (.agg vs) [] false none n
      | false => Eff E o t h n K
    | some (false, _) => match cs with
      | y :: _ => got (y.toV fr) fun v => K v [] false none n
      | [] => Eff E o t h n K
    | none => Eff E o t h n K
  | .ptr id i j => match rowP E.P ty with
    | some (false, _) => Ld (h id) i j fun v => got v fun v => K v [id] false none n
    | _ => Eff E o t h n K
  | _ => Eff E o t h n K
def sAlloc (ty : TypeId) : Prop := match zeroV E.P ty with
  | some zs => match zs.all V.cell with
    | true => match Nat.ble zs.length 12 with
      | true => forceL zs fun zs' => K (.ptr n 0 0) [] false (some [(n, some ⟨[zs'], zs'.length, ty⟩)]) (n + 1)
      | false => K (.ptr n 0 0) [] false (some [(n, some ⟨[zs], zs.length, ty⟩)]) (n + 1)
    | false => Eff E o t h n K
  | none => Eff E o t h n K
def sBox (ty : TypeId) (x : Operand) : Prop := match E.eval t x with
  | .agg cs => match cs.all V.cell with
    | true => forceL cs fun cs' => K (.ptr n 0 0) [] false (some [(n, some ⟨[cs'], cs'.length, ty⟩)]) (n + 1)
    | false => Eff E o t h n K
  | v => match v.cell, v.known with
    | true, true => force v fun v => K (.ptr n 0 0) [] false (some [(n, some ⟨[[v]], 1, ty⟩)]) (n + 1)
    | _, _ => Eff E o t h n K
def sBuild (ty : TypeId) (parts : Array (Nat × Operand)) : Prop := match E.P.underlying ty, zeroV E.P ty with
  | some (.struct fs), some zs => match placesP E.P fs with
    | some ps => forceL zs fun zs => fillK (ps[·]?) (parts.toList.map fun q => (q.1, E.eval t q.2)) zs fun cs => K (.agg cs) [] false none n
    | none => Eff E o t h n K
  | some (.array _ e), some zs => match E.P.info? e with
    | some i => forceL zs fun zs => fillK (fun k => some (k * i.size, i.size)) (parts.toList.map fun q => (q.1, E.eval t q.2)) zs fun cs => K (.agg cs) [] false none n
    | none => Eff E o t h n K
  | _, _ => Eff E o t h n K
def sLen (x : Operand) (ty : TypeId) : Prop := match E.P.underlying ty with
  | some .string => match E.eval t x with
    | .str s => K (.int .i64 s.size) [] false none n
    | _ => Eff E o t h n K
  | some (.slice _) => match lenV (E.eval t x) with
    | some m => K (.int .i64 m) [] false none n
    | none => Eff E o t h n K
  | _ => Eff E o t h n K
def sMax (mx : Bool) (x y : Operand) : Prop := match E.eval t x, E.eval t y with
  | .int k a, .int k2 b => match sameK k k2 with
    | true => match mx with
      | true => K (.int k (max a b)) [] false none n
      | false => K (.int k (min a b)) [] false none n
    | false => Eff E o t h n K
  | _, _ => Eff E o t h n K
def sBi (b : Builtin) (args : Array Operand) (tys : Array TypeId) : Prop := match b, args, tys with
  | .len, ⟨[x]⟩, ⟨[ty]⟩ => sLen E o t h n K x ty
  | .max, ⟨[x, y]⟩, _ => sMax E o t h n K true x y
  | .min, ⟨[x, y]⟩, _ => sMax E o t h n K false x y
  | _, _, _ => Eff E o t h n K
def sSl (ty : TypeId) (x : Operand) (lo hi : Option Operand) : Prop := match E.eval t x with
  | .str s => match E.P.underlying ty with
    | some .string => match bndV E t lo 0 with
      | some l => match bndV E t hi s.size with
        | some r => Sd (0 ≤ l ∧ l ≤ r ∧ r ≤ s.size) (K (.str (s.extract l.toNat r.toNat)) [] false none n)
        | none => Eff E o t h n K
      | none => Eff E o t h n K
    | _ => Eff E o t h n K
  | _ => Eff E o t h n K
def sIxA (ty : TypeId) (x y : Operand) : Prop := match E.eval t x with
  | .sl fr nn es => match E.eval t y with
    | .int k m => match sliceP E.P ty with
      | some (e, sz) => Sd (0 ≤ m) (Rw (es[m.toNat]?) fun cs => cs.length = sz ∧ K (.iptr fr cs) [] false none n)
      | none => Eff E o t h n K
    | _ => Eff E o t h n K
  | .view id off len => match E.eval t y with
    | .int k m => match sliceP E.P ty with
      | some (e, sz) => Mem (h id) fun b => b.sz = sz ∧ Sd (0 ≤ m ∧ m < len) (K (.ptr id (off + m.toNat) 0) [id] false none n)
      | none => Eff E o t h n K
    | _ => Eff E o t h n K
  | _ => Eff E o t h n K
def stepV : Prop := match o.op with
  | .move x => force (E.eval t x) fun v => K v [] false none n
  | .assign x => force (E.eval t x) fun v => K v [] false none n
  | .pick x y z => sPick E o t h n K x y z
  | .unOp op _ x => sUn E o t h n K op x
  | .binOp op ty x y _ => sBin E o t h n K op ty x y
  | .convert s d x => sConv E o t h n K s d x
  | .field ty x f => sField E o t h n K ty x f
  | .fieldAddr ty x f => sFieldA E o t h n K ty x f
  | .nilCheck x => sNil E o t h n K x
  | .extract x i => sExt E o t h n K x i
  | .makeFunc f a b => sFun E o t h n K f a b
  | .index ty x y => sIx E o t h n K ty x y
  | .load ty x => sLoad E o t h n K ty x
  | .alloc ty => sAlloc E o t h n K ty
  | .build ty ps => sBuild E o t h n K ty ps
  | .box ty x => sBox E o t h n K ty x
  | .slice ty x lo hi none => sSl E o t h n K ty x lo hi
  | .indexAddr ty x y => sIxA E o t h n K ty x y
  | .call ⟨.builtin b, args, tys⟩ => sBi E o t h n K b args tys
  | _ => Eff E o t h n K
variable {E o t h n K}
theorem sPick_ok {x y z : Operand} (ho : o.op = .pick x y z) (s : sPick E o t h n K x y z) : Eff E o t h n K := by
  unfold sPick at s
  split at s
  · next c hc =>
    split at s
    · next e => exact .one (oPk ho hc e) s
    · next e => exact .one (oPk ho hc e) s
    · next e => exact .one (oPk ho hc rfl) (F5 s)
  · exact s
theorem sUn_ok {op : UnOp} {ty : TypeId} {x : Operand} (ho : o.op = .unOp op ty x) (s : sUn E o t h n K op x) : Eff E o t h n K := by
  unfold sUn at s
  split at s
  · next hx => exact .one (op_not ho hx) s
  · next hx => exact .one (op_not ho hx) s
  · next hx => exact .one (op_compl ho hx) s
  · next hx => exact .one (op_neg ho hx) s
  · exact s
theorem Eff.br {c : Prop} [Decidable c] {rd : List Nat} (hop : OpOK E o t h n rd false (.bool (decide c)) [] n) (s : Br c (K (.bool true) rd false none n) (K (.bool false) rd false none n)) : Eff E o t h n K := by
  by_cases hc : c
  · exact .one (hop.to (by simp [hc])) (s.1 hc)
  · exact .one (hop.to (by simp [hc])) (s.2 hc)
theorem Eff.brB {c : Bool} {rd : List Nat} (hop : OpOK E o t h n rd false (.bool c) [] n) (s : BrB c (K (.bool true) rd false none n) (K (.bool false) rd false none n)) : Eff E o t h n K := by
  cases c
  · exact .one hop (s.2 rfl)
  · exact .one hop (s.1 rfl)
theorem sInt_ok {op : BinOp} {ty ty' : TypeId} {x y : Operand} {k : IntKind} {a b : Int} (ho : o.op = .binOp op ty x y ty') (hx : E.eval t x = .int k a) (hy : E.eval t y = .int k b) (s : sInt E o t h n K op k a b) : Eff E o t h n K := by
  cases op <;> simp only [sInt] at s
  case add => split at s <;> first | exact .one (G8 ho hx hy rfl) s.out | exact .one (G8 ho hx hy rfl) s
  case sub => split at s <;> first | exact .one (G8 ho hx hy rfl) s.out | exact .one (G8 ho hx hy rfl) s
  case mul => split at s <;> first | exact .one (G8 ho hx hy rfl) s.out | exact .one (G8 ho hx hy rfl) s
  case quo => exact .one (op_quo ho hx hy s.1) s.2
  case rem => exact .one (op_rem ho hx hy s.1) s.2
  case lss => exact .br (G8 ho hx hy rfl) s
  case leq => exact .br (G8 ho hx hy rfl) s
  case gtr => exact .br (G8 ho hx hy rfl) s
  case geq => exact .br (G8 ho hx hy rfl) s
  case eql => exact .br ((G8 ho hx hy rfl).to (by by_cases e : a = b <;> simp [e])) s
  case neq => exact .br ((G8 ho hx hy rfl).to (by by_cases e : a = b <;> simp [e])) s
  all_goals first | exact .one (G8 ho hx hy rfl) s | exact s
theorem sStr_ok {op : BinOp} {ty ty' : TypeId} {x y : Operand} {p q : ByteArray} (ho : o.op = .binOp op ty x y ty') (hx : E.eval t x = .str p) (hy : E.eval t y = .str q) (s : sStr E o t h n K op p q) : Eff E o t h n K := by
  cases op <;> simp only [sStr] at s
  case add => exact .one (op_cat ho hx hy s.1) s.2
  case eql => exact .br ((U6 ho hx hy rfl).to (by rw [AA])) s
  case neq => exact .br ((U6 ho hx hy rfl).to (by rw [AA]; by_cases e : p = q <;> simp [e])) s
  case lss => exact .brB (U6 ho hx hy rfl) s
  case geq => exact .brB (U6 ho hx hy rfl) s
  case leq => exact .brB (U6 ho hx hy rfl) s
  case gtr => exact .brB (U6 ho hx hy rfl) s
  all_goals exact s
theorem sBool_ok {op : BinOp} {ty ty' : TypeId} {x y : Operand} {a b : Bool} (ho : o.op = .binOp op ty x y ty') (hx : E.eval t x = .bool a) (hy : E.eval t y = .bool b) (s : sBool E o t h n K op ty a b) : Eff E o t h n K := by
  unfold sBool at s
  split at s
  · next hu =>
    split at s <;> exact .one ((op_beq ho (.inl rfl) hu hx hy).to (by simp)) s
  · next hu =>
    split at s <;> exact .one ((op_beq ho (.inr rfl) hu hx hy).to (by simp)) s
  · exact s
theorem sNilB_ok {op : BinOp} {ty ty' : TypeId} {x : Operand} {m k : Nat} (ho : o.op = .binOp op ty x (.const (.slice none m k)) ty') (s : sNilB E o t h n K op ty (nilV (E.eval t x))) : Eff E o t h n K := by
  unfold sNilB at s
  split at s
  · next hu hb => exact .one ((S6 ho (.inl rfl) hu hb).to (by simp)) s
  · next hu hb => exact .one ((S6 ho (.inl rfl) hu hb).to (by simp)) s
  · next hu hb => exact .one ((S6 ho (.inr rfl) hu hb).to (by simp)) s
  · next hu hb => exact .one ((S6 ho (.inr rfl) hu hb).to (by simp)) s
  · exact s
theorem sBin_ok {op : BinOp} {ty ty' : TypeId} {x y : Operand} (ho : o.op = .binOp op ty x y ty') (s : sBin E o t h n K op ty x y) : Eff E o t h n K := by
  unfold sBin at s
  split at s
  · next hx =>
    split at s
    · next hy =>
      split at s
      · exact .one (op_shl ho hx hy s.1) s.2
      · exact .one (op_shr ho hx hy s.1) s.2
      · split at s
        · next hk => exact sInt_ok ho hx (by rw [hy, Y0 hk]) s
        · exact s
    · exact s
  · next hx =>
    split at s
    · next hy => exact sStr_ok ho hx hy s
    · exact s
  · next hx =>
    split at s
    · next hy => exact sBool_ok ho hx hy s
    · exact s
  · split at s
    · exact sNilB_ok ho s
    · exact s
theorem sConv_ok {sr d : TypeId} {x : Operand} (ho : o.op = .convert sr d x) (s : sConv E o t h n K sr d x) : Eff E o t h n K := by
  unfold sConv at s
  split at s
  · next hx =>
    split at s
    · next hs hd => exact .one (op_conv ho hx (by rw [hs]; rfl) hd) s.out
    · next hs hd => exact .one (op_conv ho hx (by rw [hs]; rfl) hd) s
    · exact s
  · exact s
theorem sField_ok {ty : TypeId} {x : Operand} {f : Nat} (ho : o.op = .field ty x f) (s : sField E o t h n K ty x f) : Eff E o t h n K := by
  unfold sField at s
  split at s
  · next hx =>
    split at s
    · next hf =>
      split at s
      · next hl =>
        split at s
        · next hv => exact .one (op_field ho hx hf hv (Nat.le_of_ble_eq_true hl)) (got_ok s)
        · exact s
      · exact s
    · exact s
  · exact s
theorem sFieldA_ok {ty : TypeId} {x : Operand} {f : Nat} (ho : o.op = .fieldAddr ty x f) (s : sFieldA E o t h n K ty x f) : Eff E o t h n K := by
  unfold sFieldA at s
  split at s
  · next hx =>
    split at s
    · next hf => exact .one (op_fieldAddr ho hx hf kz) s
    · exact s
  · next hx =>
    split at s
    · next hf => exact .one (Z1 ho hx hf kz) (forceT_ok s)
    · exact s
  · exact s
theorem sNil_ok {x : Operand} (ho : o.op = .nilCheck x) (s : sNil E o t h n K x) : Eff E o t h n K := by
  unfold sNil at s
  split at s
  · next hx => exact .one ((L3 ho (by rw [hx]; rfl)).to hx) s
  · next hx => exact .one ((L3 ho (by rw [hx]; rfl)).to hx) s
  · next hx => exact .one ((L3 ho (by rw [hx]; rfl)).to hx) s
  · exact s
theorem sExt_ok {x : Operand} {i : Nat} (ho : o.op = .extract x i) (s : sExt E o t h n K x i) : Eff E o t h n K := by
  unfold sExt at s
  split at s
  · next hx =>
    split at s
    · next hi => exact .one (op_extract ho hx hi) (got_ok s)
    · exact s
  · exact s
theorem sFun_ok {f : Fn} {a b : Array Operand} (ho : o.op = .makeFunc f a b) (s : sFun E o t h n K f a b) : Eff E o t h n K := by
  unfold sFun at s
  split at s
  · exact .one (op_makeFunc ho) (D9 s)
  · exact s
theorem sIx_ok {ty : TypeId} {x y : Operand} (ho : o.op = .index ty x y) (s : sIx E o t h n K ty x y) : Eff E o t h n K := by
  unfold sIx at s
  split at s
  · next hx =>
    split at s
    · next hu =>
      split at s
      · next k i => obtain ⟨j, rfl, s⟩ := s.out; exact .one (S5 ho hx (k := k) (m := (i : Int)) rfl hu (Int.natCast_nonneg i) (by have := s.1; omega)) s.2
      · split at s
        · next hy => exact .one (S5 ho hx hy hu s.1.1 s.1.2) s.2
        · exact s
    · exact s
  · exact s
theorem sLoad_ok {ty : TypeId} {x : Operand} (ho : o.op = .load ty x) (s : sLoad E o t h n K ty x) : Eff E o t h n K := by
  unfold sLoad at s
  split at s
  · next hx =>
    split at s
    · next hr =>
      split at s
      · next hl => exact .one (op_load_irow ho hx hr (Nat.le_of_ble_eq_true hl)) (D9 s)
      · exact s
    · next hr =>
      split at s
      · exact .one (op_load_icell ho hx hr rfl) (got_ok s)
      · exact s
    · exact s
  · next hx =>
    split at s
    · next hr =>
      obtain ⟨b, cs, v, hb, hi, hl, w⟩ := s.out
      exact .one (op_load_cell ho hx hb hi hr hl) (got_ok w)
    · exact s
  · exact s
theorem sAlloc_ok {ty : TypeId} (ho : o.op = .alloc ty) (s : sAlloc E o t h n K ty) : Eff E o t h n K := by
  unfold sAlloc at s
  match hz : zeroV E.P ty with
  | none => rw [hz] at s; exact s
  | some zs =>
    rw [hz] at s
    dsimp only at s
    split at s
    · next hc =>
      split at s
      · exact .two (op_alloc ho hz hc) (Nat.le_succ _) (D9 (K := fun zs' => K (.ptr n 0 0) [] false (some [(n, some ⟨[zs'], zs'.length, ty⟩)]) (n + 1)) s)
      · exact .two (op_alloc ho hz hc) (Nat.le_succ _) s
    · exact s
theorem cells_one {v : V} (hne : ∀ cs, v ≠ .agg cs) : v.cells = [v] := by cases v <;> first | rfl | exact absurd rfl (hne _)
theorem sBox_ok {ty : TypeId} {x : Operand} (ho : o.op = .box ty x) (s : sBox E o t h n K ty x) : Eff E o t h n K := by
  unfold sBox at s
  split at s
  · next cs hx =>
    split at s
    · next hc =>
      have hop := op_box (h := h) (n := n) ho (by rw [hx]; rfl) (by rw [hx]; exact hc)
      rw [hx] at hop
      exact .two hop (Nat.le_succ _) (D9 (K := fun cs' => K (.ptr n 0 0) [] false (some [(n, some ⟨[cs'], cs'.length, ty⟩)]) (n + 1)) s)
    · exact s
  · next v hne =>
    split at s
    · next h1 h2 =>
      have hop := op_box (h := h) (n := n) ho h2 (by rw [cells_one hne]; simp [h1])
      rw [cells_one hne] at hop
      exact .two hop (Nat.le_succ _) (F5 (K := fun v => K (.ptr n 0 0) [] false (some [(n, some ⟨[[v]], 1, ty⟩)]) (n + 1)) s)
    · exact s
theorem sBuild_ok {ty : TypeId} {ps : Array (Nat × Operand)} (ho : o.op = .build ty ps) (s : sBuild E o t h n K ty ps) : Eff E o t h n K := by
  unfold sBuild at s
  split at s
  · next hu hz =>
    split at s
    · next hp =>
      obtain ⟨cs, hc, w⟩ := Y1 (D9 (K := fun zs => fillK _ _ zs fun cs => K (.agg cs) [] false none n) s)
      exact .one (op_build ho (by unfold buildV; rw [hu, hz]; dsimp only; rw [hp]; exact hc)) w
    · exact s
  · next hu hz =>
    split at s
    · next hp =>
      obtain ⟨cs, hc, w⟩ := Y1 (D9 (K := fun zs => fillK _ _ zs fun cs => K (.agg cs) [] false none n) s)
      exact .one (op_build ho (by unfold buildV; rw [hu, hz]; dsimp only; rw [hp]; exact hc)) w
    · exact s
  · exact s
theorem sBi_ok {b : Builtin} {args : Array Operand} {tys : Array TypeId} (ho : o.op = .call ⟨.builtin b, args, tys⟩) (s : sBi E o t h n K b args tys) : Eff E o t h n K := by
  unfold sBi at s
  split at s
  · unfold sLen at s
    split at s
    · next hu =>
      split at s
      · next hx => exact .one (op_len_str ho hx hu) s
      · exact s
    · next hu =>
      split at s
      · next hm => exact .one (op_len_sl ho hm hu) s
      · exact s
    · exact s
  · unfold sMax at s
    split at s
    · next hx hy =>
      split at s
      · next hk => simp only at s; exact .one (op_max ho hx (by rw [hy, Y0 hk])) s
      · exact s
    · exact s
  · unfold sMax at s
    split at s
    · next hx hy =>
      split at s
      · next hk => simp only at s; exact .one (op_min ho hx (by rw [hy, Y0 hk])) s
      · exact s
    · exact s
  · exact s
theorem sSl_ok {ty : TypeId} {x : Operand} {lo hi : Option Operand} (ho : o.op = .slice ty x lo hi none) (s : sSl E o t h n K ty x lo hi) : Eff E o t h n K := by
  unfold sSl at s
  split at s
  · next hx =>
    split at s
    · next hu =>
      split at s
      · next hl =>
        split at s
        · next hr => exact .one (op_slice_str ho hx hu hl hr s.1.1 s.1.2.1 s.1.2.2) s.2
        · exact s
      · exact s
    · exact s
  · exact s
theorem sIxA_ok {ty : TypeId} {x y : Operand} (ho : o.op = .indexAddr ty x y) (s : sIxA E o t h n K ty x y) : Eff E o t h n K := by
  unfold sIxA at s
  split at s
  · next hx =>
    split at s
    · next hy =>
      split at s
      · next hs =>
        obtain ⟨h0, ⟨cs, hi, hl, w⟩⟩ := s
        exact .one (op_index_sl ho hx hy hs h0 hi hl) w
      · exact s
    · exact s
  · next hx =>
    split at s
    · next hy =>
      split at s
      · next hs =>
        obtain ⟨b, hb, hz, h0, w⟩ := s.out
        exact .one (op_index_view ho hx hy hs hb hz h0.1 h0.2) w
      · exact s
    · exact s
  · exact s
theorem stepV_ok (s : stepV E o t h n K) : Eff E o t h n K := by
  unfold stepV at s
  split at s
  · next ho => exact .one (op_move ho) (F5 s)
  · next ho => exact .one (op_assign ho) (F5 s)
  · next ho => exact sPick_ok ho s
  · next ho => exact sUn_ok ho s
  · next ho => exact sBin_ok ho s
  · next ho => exact sConv_ok ho s
  · next ho => exact sField_ok ho s
  · next ho => exact sFieldA_ok ho s
  · next ho => exact sNil_ok ho s
  · next ho => exact sExt_ok ho s
  · next ho => exact sFun_ok ho s
  · next ho => exact sIx_ok ho s
  · next ho => exact sLoad_ok ho s
  · next ho => exact sAlloc_ok ho s
  · next ho => exact sBuild_ok ho s
  · next ho => exact sBox_ok ho s
  · next ho => exact sSl_ok ho s
  · next ho => exact sIxA_ok ho s
  · next ho => exact sBi_ok ho s
  · exact s
end steps
def put (f : Nat → V) (d : Nat) (v : V) : Nat → V := fun i => match Nat.beq i d with
  | true => v
  | false => f i
theorem put_eq (f : Nat → V) (d : Nat) (v : V) : put f d v = upd f d v := by
  funext i
  unfold put upd
  by_cases e : i = d
  · subst e; simp
  · have : Nat.beq i d = false := by rw [← Bool.not_eq_true]; exact fun q => e (Nat.eq_of_beq_eq_true q)
    rw [this, if_neg e]
abbrev RQ := (Nat → V) → Heap → Nat → Prop
abbrev SQ := (Nat → V) → Heap → Nat → Prop
def rK (o : Oper) (ih : SQ) (t : Nat → V) (h : Heap) : EK := fun v rd tot W n1 => match o.dst, W with
  | some d, none => ih (put t d v) h n1
  | some d, some wr => ih (put t d v) (app wr h) n1
  | none, none => ih t h n1
  | none, some wr => ih t (app wr h) n1
def rC (E : Env) (ops : Array Oper) (o : Oper) (l : List Oper) (ih : SQ) : SQ := fun t h n => match guardV ops t o with
  | some true => stepV E o t h n (rK o ih t h)
  | some false => match o.dst with
    | some d => ih (put t d (.tup [])) h n
    | none => ih t h n
  | none => False
noncomputable def evR (E : Env) (ops : Array Oper) (l : List Oper) (t : Nat → V) (h : Heap) (n : Nat) (R : RQ) : Prop := @List.rec Oper (fun _ => SQ) R (rC E ops) l t h n
abbrev DQ := Bool → List Ef → SQ
def dN (ops : Array Oper) (bl : List Nat) (R : RQ) : DQ := fun s pre t h n => match s with
  | true => R t h n
  | false => Clr ops bl pre (R t h n)
def dK (o : Oper) (ih : DQ) (s : Bool) (pre : List Ef) (t : Nat → V) (h : Heap) (n : Nat) : EK := fun v rd tot W n1 => match o.dst, W, tot with
  | some d, none, false => ih s (⟨false, v, rd, false, [], n, n1⟩ :: pre) (put t d v) h n1
  | some d, none, true => ih false (⟨false, v, rd, true, [], n, n1⟩ :: pre) (put t d v) h n1
  | some d, some wr, tot => ih false (⟨false, v, rd, tot, wr, n, n1⟩ :: pre) (put t d v) (app wr h) n1
  | none, none, tot => ih false (⟨false, v, rd, tot, [], n, n1⟩ :: pre) t h n1
  | none, some wr, tot => ih false (⟨false, v, rd, tot, wr, n, n1⟩ :: pre) t (app wr h) n1
def dC (E : Env) (ops : Array Oper) (o : Oper) (l : List Oper) (ih : DQ) : DQ := fun s pre t h n => match guardV ops t o with
  | some true => stepV E o t h n (dK o ih s pre t h n)
  | some false => match o.dst with
    | some d => ih s (⟨true, .tup [], [], false, [], n, n⟩ :: pre) (put t d (.tup [])) h n
    | none => ih s (⟨true, .tup [], [], false, [], n, n⟩ :: pre) t h n
  | none => False
noncomputable def evD (E : Env) (ops : Array Oper) (bl : List Nat) (l : List Oper) (s : Bool) (pre : List Ef) (t : Nat → V) (h : Heap) (n : Nat) (R : RQ) : Prop := @List.rec Oper (fun _ => DQ) (dN ops bl R) (dC E ops) l s pre t h n
theorem P7 (t : Nat → V) (d : Nat) (v : V) : updO t (some d) v = put t d v := (put_eq t d v).symm
theorem rSkip' {E : Env} {sz : Nat} {ops : Array Oper} {l : List Oper} {o : Oper} {t : Nat → V} {h : Heap} {n : Nat} {R : RQ} (hd : dstOK sz o.dst = true) (hg : guardV ops t o = some false) (w : WR E sz ops l (updO t o.dst (.tup [])) h n R) : WR E sz ops (o :: l) t h n R := by
  unfold WR at w ⊢
  obtain ⟨es, t', h', n', r, q⟩ := w
  exact ⟨_, _, _, _, .skip o l t h n es t' h' n' hd hg r, q⟩
theorem dSkip' {E : Env} {sz : Nat} {ops : Array Oper} {bl : List Nat} {pre : List Ef} {l : List Oper} {o : Oper} {t : Nat → V} {h : Heap} {n : Nat} {R : RQ} (hd : dstOK sz o.dst = true) (hg : guardV ops t o = some false) (w : WD E sz ops bl (⟨true, .tup [], [], false, [], n, n⟩ :: pre) l (updO t o.dst (.tup [])) h n R) : WD E sz ops bl pre (o :: l) t h n R := by
  unfold WD at w ⊢
  obtain ⟨es, t', h', n', r, hc, q⟩ := w
  exact ⟨_, _, _, _, .skip o l t h n es t' h' n' hd hg r, by simpa using hc, q⟩
def dstsOK (sz : Nat) (l : List Oper) : Bool := l.all fun o => dstOK sz o.dst
theorem Y2 {E : Env} {sz : Nat} {ops : Array Oper} {R : RQ} : ∀ {l : List Oper} {t : Nat → V} {h : Heap} {n : Nat}, dstsOK sz l = true → evR E ops l t h n R → WR E sz ops l t h n R
  | [], t, h, n, _, w => rNil w
  | o :: l, t, h, n, hd, w => by
    unfold dstsOK at hd
    rw [List.all_cons, Bool.and_eq_true] at hd
    have w : rC E ops o l (fun t h n => evR E ops l t h n R) t h n := w
    unfold rC at w
    split at w
    · next hg =>
      obtain ⟨v, rd, tot, W, n1, hop, hn, hz, k⟩ := (stepV_ok w).out
      refine rOp hop hd.1 hg hn hz ?_
      cases ho : o.dst with
      | none => unfold rK at k; rw [ho] at k; cases W <;> exact Y2 hd.2 k
      | some d => unfold rK at k; rw [ho] at k; rw [P7]; cases W <;> exact Y2 hd.2 k
    · next hg =>
      refine rSkip' hd.1 hg ?_
      cases ho : o.dst with
      | none => rw [ho] at w; exact Y2 hd.2 w
      | some d => rw [ho] at w; rw [P7]; exact Y2 hd.2 w
    · exact w.elim
theorem residE_nil {size : Nat} {bl : List Nat} {es : List Ef} (h : ∀ e ∈ es, e.cls ≤ 1) : residE size bl es = [] := by
  unfold residE
  refine List.flatMap_eq_nil_iff.2 fun j _ => List.filterMap_eq_nil_iff.2 fun i _ => ?_
  split
  · rfl
  · split
    · next e f he hf =>
      have h1 := h e (List.mem_of_getElem? he)
      have h2 := h f (List.mem_of_getElem? hf)
      have : compat e.cls f.cls = true := by
        generalize e.cls = a at h1
        generalize f.cls = b at h2
        match a, b, h1, h2 with
        | 0, _, _, _ => rfl
        | 1, 0, _, _ => rfl
        | 1, 1, _, _ => rfl
        | _ + 2, _, h, _ => omega
        | _, _ + 2, _, h => omega
      rw [if_pos this]
    · rfl
theorem O3 {E : Env} {sz : Nat} {ops : Array Oper} {bl : List Nat} {R : RQ} : ∀ {l : List Oper} {s : Bool} {pre : List Ef} {t : Nat → V} {h : Heap} {n : Nat}, dstsOK sz l = true → (s = true → ∀ e ∈ pre, e.cls ≤ 1) →
    evD E ops bl l s pre t h n R → WD E sz ops bl pre l t h n R
  | [], s, pre, t, h, n, _, hs, w => by
    cases s with
    | true => exact dNil (by rw [residE_nil fun e he => hs rfl e (List.mem_reverse.1 he)]; trivial) w
    | false => exact dNil w.1 w.2
  | o :: l, s, pre, t, h, n, hd, hs, w => by
    unfold dstsOK at hd
    rw [List.all_cons, Bool.and_eq_true] at hd
    have w : dC E ops o l (fun s pre t h n => evD E ops bl l s pre t h n R) s pre t h n := w
    unfold dC at w
    have keep : ∀ {v rd n n1} {k : Bool}, s = true → ∀ e ∈ (⟨k, v, rd, false, [], n, n1⟩ : Ef) :: pre, e.cls ≤ 1 := fun h e he => by
      rcases List.mem_cons.1 he with rfl | he
      · unfold Ef.cls; dsimp only; split <;> first | omega | simp_all
      · exact hs h e he
    split at w
    · next hg =>
      obtain ⟨v, rd, tot, W, n1, hop, hn, hz, k⟩ := (stepV_ok w).out
      refine dOp hop hd.1 hg hn hz ?_
      cases ho : o.dst with
      | none => unfold dK at k; rw [ho] at k; cases W <;> exact O3 (s := false) hd.2 (fun h => nomatch h) k
      | some d =>
        unfold dK at k; rw [ho] at k; rw [P7]
        cases W with
        | some wr => exact O3 (s := false) hd.2 (fun h => nomatch h) k
        | none => cases tot with
          | true => exact O3 (s := false) hd.2 (fun h => nomatch h) k
          | false => exact O3 hd.2 keep k
    · next hg =>
      refine dSkip' hd.1 hg ?_
      cases ho : o.dst with
      | none => rw [ho] at w; exact O3 hd.2 keep w
      | some d => rw [ho] at w; rw [P7]; exact O3 hd.2 keep w
    · exact w.elim
def blOf (ops : Array Oper) : List Nat := ops.toList.foldl (fun bl o => bl ++ [maskOf o bl]) []
def codeOK (E : Env) (sz : Nat) : Code → Bool
  | .region _ ops dr => dstsOK sz ops.toList && (!dr || (E.P.follows .mixedOrders && statOK ops (blOf ops)))
  | .seq a b => codeOK E sz a && codeOK E sz b
  | .cond _ a b => codeOK E sz a && codeOK E sz b
  | .block _ k => codeOK E sz k
  | _ => true
abbrev CQ := (Nat → V) → Heap → Nat → Post → Prop
def seqK (ib : CQ) (Q : Post) : Post := fun x t h n => match x with
  | .norm => ib t h n Q
  | .exit i => Q (.exit i) t h n
  | .ret => Q .ret t h n
def blkK (id : Nat) (Q : Post) : Post := fun x t h n => match x with
  | .norm => Q .norm t h n
  | .exit i => match Nat.beq i id with
    | true => Q .norm t h n
    | false => Q (.exit i) t h n
  | .ret => Q .ret t h n
noncomputable def cReg1 (E : Env) (ops : Array Oper) (dr : Bool) (t : Nat → V) (n : Nat) (Q : Post) (h : Heap) : Prop := match dr with
  | false => evR E ops ops.toList t h n (Q .norm)
  | true => evD E ops (blOf ops) ops.toList true [] t h n (Q .norm)
noncomputable def cReg (E : Env) (st : List Nat) (id : Nat) (ops : Array Oper) (dr : Bool) : CQ := fun t h n Q => match st.contains id with
  | true => Stop h (cReg1 E ops dr t n Q)
  | false => cReg1 E ops dr t n Q h
def cCond (E : Env) (c : Operand) (a b : Code) (ia ib : CQ) : CQ := fun t h n Q => match E.eval t c with
  | .bool true => ia t h n Q
  | .bool false => ib t h n Q
  | _ => False
noncomputable def evC (E : Env) (sz : Nat) (st : List Nat) (k : Code) : CQ := @Code.rec (fun _ => CQ)
  (fun t h n Q => Q .norm t h n) (cReg E st) (fun _ _ ia ib t h n Q => ia t h n (seqK ib Q)) (cCond E) (fun id _ ik t h n Q => ik t h n (blkK id Q))
  (fun k _ t h n Q => WL E sz k t h n Q) (fun f ps a b _ _ t h n Q => WP E sz (.rangeFunc f ps a b) t h n Q) (fun id t h n Q => Q (.exit id) t h n) (fun k _ t h n Q => WP E sz (.scope k) t h n Q)
  (fun l t h n Q => WP E sz (.label l) t h n Q) (fun l t h n Q => WP E sz (.goto l) t h n Q) (fun t h n Q => Q .ret t h n) (fun s t h n Q => WP E sz (.refuse s) t h n Q) k
theorem wRegion' {E : Env} {sz : Nat} {id : Nat} {ops : Array Oper} {t : Nat → V} {h : Heap} {n : Nat} {Q : Post} (w : WR E sz ops ops.toList t h n (Q .norm)) : WP E sz (.region id ops false) t h n Q := by
  obtain ⟨l⟩ := ops; exact wRegion w
theorem wDraw' {E : Env} {sz : Nat} {id : Nat} {ops : Array Oper} {t : Nat → V} {h : Heap} {n : Nat} {Q : Post} (bl : List Nat) (hm : E.P.follows .mixedOrders = true) (hst : statOK ops bl = true) (w : WD E sz ops bl [] ops.toList t h n (Q .norm)) : WP E sz (.region id ops true) t h n Q := by
  obtain ⟨l⟩ := ops; exact wDraw bl hm hst w
theorem wSeq' {E : Env} {sz : Nat} {k1 k2 : Code} {t : Nat → V} {h : Heap} {n : Nat} {Q : Post} (w : WP E sz k1 t h n (seqK (WP E sz k2) Q)) : WP E sz (.seq k1 k2) t h n Q := by
  refine wSeq (w.mono fun x t h n q => ?_)
  cases x
  · exact qSeq q
  · exact qSeqX q
  · exact qSeqR q
theorem wBlock' {E : Env} {sz : Nat} {id : Nat} {k : Code} {t : Nat → V} {h : Heap} {n : Nat} {Q : Post} (w : WP E sz k t h n (blkK id Q)) : WP E sz (.block id k) t h n Q := by
  refine wBlock (w.mono fun x t h n q => ?_)
  cases x with
  | norm => exact qBlock q
  | ret => exact qBlockR q
  | exit i =>
    unfold blkK at q
    dsimp only at q
    split at q
    · next e => obtain rfl := Nat.eq_of_beq_eq_true e; exact qBlockX q
    · next e => exact qBlockY (fun he => by subst he; simp at e) q
theorem T2 {E : Env} {sz : Nat} {st : List Nat} : ∀ {k : Code} {t : Nat → V} {h : Heap} {n : Nat} {Q : Post}, codeOK E sz k = true → evC E sz st k t h n Q → WP E sz k t h n Q := by
  intro k
  induction k with
  | skip => intro t h n Q _ w; exact wSkip w
  | region id ops dr =>
    intro t h n Q hk w
    simp only [codeOK, Bool.and_eq_true] at hk
    have w : cReg E st id ops dr t h n Q := w
    have w2 : cReg1 E ops dr t n Q h := by unfold cReg at w; split at w <;> first | exact w | exact w.out
    cases dr with
    | false => exact wRegion' (Y2 hk.1 w2)
    | true =>
      simp only [Bool.not_true, Bool.false_or, Bool.and_eq_true] at hk
      exact wDraw' _ hk.2.1 hk.2.2 (O3 hk.1 (fun _ e he => by cases he) w2)
  | seq a b iha ihb =>
    intro t h n Q hk w
    simp only [codeOK, Bool.and_eq_true] at hk
    refine wSeq' ((iha hk.1 w).mono fun x t h n q => ?_)
    cases x with
    | norm => exact ihb hk.2 q
    | exit i => exact q
    | ret => exact q
  | cond c a b iha ihb =>
    intro t h n Q hk w
    simp only [codeOK, Bool.and_eq_true] at hk
    have w : cCond E c a b (evC E sz st a) (evC E sz st b) t h n Q := w
    unfold cCond at w
    split at w
    · next hc => exact wT hc (iha hk.1 w)
    · next hc => exact wF hc (ihb hk.2 w)
    · exact w.elim
  | block id k ih =>
    intro t h n Q hk w
    exact wBlock' (ih hk w)
  | loop k ih => intro t h n Q _ w; exact wLoop w
  | exit id => intro t h n Q _ w; exact wExit w
  | ret => intro t h n Q _ w; exact wRet w
  | _ => intro t h n Q _ w; exact w
def lpQ (E : Env) (sz : Nat) (k : Code) (Q : Post) : Post := fun x t h n => match x with
  | .norm => WL E sz k t h n Q
  | .exit i => Q (.exit i) t h n
  | .ret => Q .ret t h n
theorem A7 {E : Env} {sz : Nat} {k : Code} {t : Nat → V} {h : Heap} {n : Nat} {Q : Post} {st : List Nat} (w : evC E sz st k t h n (lpQ E sz k Q)) (hk : codeOK E sz k = true := by decide +kernel) : WL E sz k t h n Q := by
  refine lStep ((T2 hk w).mono fun x t h n q => ?_)
  cases x
  · exact qLoop q
  · exact qLoopX q
  · exact qLoopR q
def FinE (E : Env) (fn : Func) (res : List A) : Post := FinOK E fn res
def FinP (E : Env) (fn : Func) (v : V) (h : Heap) (n0 : Nat) (wr : List (Nat × Option Blk)) (m : Nat) : Post := OpenFin E fn v h n0 wr m
def argT (args : List A) : Nat → V := fun i => ((args.map (A.toV false))[i]?).getD .unk
def argV (args : List V) : Nat → V := fun i => (args[i]?).getD .unk
section fins
variable {E : Env} {f : FuncId} {fn : Func} {k : Code} {t : Nat → V} {h : Heap} {n : Nat} {x : Ex}
theorem Pure.of_ev {args res : List A} {st : List Nat} (hf : E.P.funcs[f]? = some fn) (hb : fn.body = some k) (hn : args.length ≤ fn.ntmps)
    (w : evC E fn.ntmps st k (argT args) (fun _ => none) 0 (FinE E fn res)) (hk : codeOK E fn.ntmps k = true := by decide +kernel) (hnm : (fn.name != "runtime.NumGoroutine") = true := by rfl) : Pure E f args res :=
  Pure.of_wp hf hb hn (T2 hk w) hnm
theorem Pure.of_evX {args : List A} {α : Type} {p : α → Prop} {R : α → List A} {st : List Nat} (hf : E.P.funcs[f]? = some fn) (hb : fn.body = some k) (hn : args.length ≤ fn.ntmps)
    (w : evC E fn.ntmps st k (argT args) (fun _ => none) 0 fun x t h n => ∃ a, p a ∧ FinE E fn (R a) x t h n) (hk : codeOK E fn.ntmps k = true := by decide +kernel) (hnm : (fn.name != "runtime.NumGoroutine") = true := by rfl) : ∃ a, p a ∧ Pure E f args (R a) :=
  Pure.of_wpX hf hb hn (T2 hk w) hnm
theorem Open.of_ev {args : List V} {v : V} {wr : List (Nat × Option Blk)} {m : Nat} {st : List Nat} (hf : E.P.funcs[f]? = some fn) (hb : fn.body = some k) (hn : args.length ≤ fn.ntmps)
    (w : evC E fn.ntmps st k (argV args) h n (FinP E fn v h n wr m)) (hk : codeOK E fn.ntmps k = true := by decide +kernel) (hnm : (fn.name != "runtime.NumGoroutine") = true := by rfl) : Open E f args h n v wr m :=
  Open.of_wp hf hb hn (T2 hk w) hnm
theorem Open.of_evX {args : List V} {α : Type} {p : α → Prop} {v : α → V} {wr : α → List (Nat × Option Blk)} {m : α → Nat} {st : List Nat} (hf : E.P.funcs[f]? = some fn) (hb : fn.body = some k) (hn : args.length ≤ fn.ntmps)
    (w : evC E fn.ntmps st k (argV args) h n fun x t' h' n' => ∃ a, p a ∧ FinP E fn (v a) h n (wr a) (m a) x t' h' n') (hk : codeOK E fn.ntmps k = true := by decide +kernel) (hnm : (fn.name != "runtime.NumGoroutine") = true := by rfl) : ∃ a, p a ∧ Open E f args h n (v a) (wr a) (m a) :=
  Open.of_wpX hf hb hn (T2 hk w) hnm
variable {res : List A} {p : Prop} [Decidable p]
theorem E4 {xs : List V} (hr : resL E.P t h fn.results.toList = some xs) (hd : dataL true xs = some res) (hx : x = .norm ∨ x = .ret := by first | exact .inl rfl | exact .inr rfl) : FinE E fn res x t h n := fin hr hd hx
theorem B4 (hr : resL E.P t h fn.results.toList = some [.bool true]) (hp : p) (hx : x = .norm ∨ x = .ret := by first | exact .inl rfl | exact .inr rfl) : FinE E fn [.one (.bool (decide p))] x t h n := finT hr hp hx
theorem B3 (hr : resL E.P t h fn.results.toList = some [.bool false]) (hp : ¬ p) (hx : x = .norm ∨ x = .ret := by first | exact .inl rfl | exact .inr rfl) : FinE E fn [.one (.bool (decide p))] x t h n := finF hr hp hx
theorem C7 {xs : List V} (ids : List Nat) (hr : resL E.P t h fn.results.toList = some xs) (hs : SnapL h ids true xs res) (hx : x = .norm ∨ x = .ret := by first | exact .inl rfl | exact .inr rfl) : FinE E fn res x t h n := finS ids hr hs hx
theorem G9 {v : V} {h' : Heap} {n0 : Nat} {wr : List (Nat × Option Blk)} {m n' : Nat} {xs : List V} (hr : resL E.P t h' fn.results.toList = some xs) (hv : retX xs = v)
    (hs : (∀ i, n0 ≤ i → h i = none) → ∀ id b, app wr h id = some b → h' id = some b) (hm : n' ≤ m) (hx : x = .norm ∨ x = .ret := by first | exact .inl rfl | exact .inr rfl) : FinP E fn v h n0 wr m x t h' n' := finO hr hv hs hm hx
end fins
theorem br {c A B : Prop} (h1 : c → A) (h2 : ¬ c → B) : Br c A B := ⟨h1, h2⟩
theorem brB {c : Bool} {A B : Prop} (h1 : c = true → A) (h2 : c = false → B) : BrB c A B := ⟨h1, h2⟩
theorem brBF {A B : Prop} (h1 : B) : BrB false A B := ⟨(fun h => nomatch h), fun _ => h1⟩
theorem sd {c A : Prop} (h1 : c) (h2 : A) : Sd c A := ⟨h1, h2⟩
theorem dropGet {cs : List T} {u : T} (h : cs[0]? = some u) : cs = u :: cs.tail := by cases cs with | nil => simp at h | cons a r => simp at h; subst h; rfl
theorem D6 {m : Int} {F : Int → Prop} (h : fits m) (w : F m) : Ar m F := ⟨by rw [N1 h.1 h.2]; exact w⟩
theorem B7 {m : Int} {F : Int → Prop} (w : F m) (h : fits m := by first | omega | assumption | decide | (constructor <;> first | omega | assumption | (focus (simp; omega)))) : Ar m F := ⟨by rw [N1 h.1 h.2]; exact w⟩
theorem cvW {m : Int} {F : Int → Prop} (w : F (IntKind.i64.wrap m)) : Cv m F := ⟨w⟩
theorem cvF {m : Int} {F : Int → Prop} (h : fits m) (w : F m) : Cv m F := ⟨by rw [N1 h.1 h.2]; exact w⟩
theorem cvA {m : Int} {F : Int → Prop} (w : F m) (h : fits m := by first | omega | exact ⟨N6 _ _, N7 _ _⟩ | assumption | (constructor <;> first | omega | assumption | (focus (simp; omega)))) : Cv m F := cvF h w
theorem lit {m : Nat} {F : Nat → Prop} (i : Nat) (h : m = i) (w : F i) : Lit m F := ⟨i, h, w⟩
theorem mem {b : Option Blk} {x : Blk} {F : Blk → Prop} (hb : b = some x) (w : F x) : Mem b F := ⟨x, hb, w⟩
theorem D7 {r : Option (List T)} {x : List T} {sz : Nat} {A : List T → Prop} (hr : r = some x) (hz : x.length = sz) (w : A x) : Rw r fun cs => cs.length = sz ∧ A cs := ⟨x, hr, hz, w⟩
theorem E1 {h : Heap} {F : Heap → Prop} (w : ∀ g, g = h → F g) : Stop h F := ⟨w h rfl⟩
theorem clr {ops : Array Oper} {bl : List Nat} {pre : List Ef} {A : Prop} (m : Nat) (cs : List Nat) (rs : List (Nat × Nat)) (G0 : ops.size = m ∧ pre.map Ef.cls = cs)
    (hr : residC m bl cs.reverse = rs) (hc : ClearL pre.reverse rs) (w : A) : Clr ops bl pre A := have ⟨hm, hcs⟩ := G0; ⟨by rw [residC_eq, hm, List.map_reverse, hcs, hr]; exact hc, w⟩
theorem C2 {c A : Prop} (w : A) (h : c := by first | omega | assumption | decide | (constructor <;> first | omega | assumption | (focus (simp; omega)))) : Sd c A := ⟨h, w⟩
theorem A4 {b : Option Blk} {x : Blk} {cs : List V} {v : V} {i j : Nat} {F : V → Prop} (w : F v) (hb : b = some x := by first | ((simp (disch := omega) only [↓app0, ↓appC, ↓updS, ↓updN, ↓hpS, ↓hpN]) <;> first | rfl | assumption) | assumption | rfl) (hi : x.es[i]? = some cs := by rfl) (hl : cs[j]? = some v := by rfl) : Ld b i j F := ⟨x, cs, v, hb, hi, hl, w⟩
theorem F6 {ops : Array Oper} {bl : List Nat} {pre : List Ef} {A : Prop} (w : A) (hr : residE ops.size bl pre.reverse = [] := by kernel_rfl) : Clr ops bl pre A := ⟨(by rw [hr]; trivial), w⟩
attribute [irreducible] FinE FinP
end Go.V
namespace Go.V
open Go
set_option linter.unusedVariables false
set_option linter.unusedSimpArgs false
def V.data : V → Bool
  | .bool _ | .int _ _ | .str _ | .nilp | .nilf | .nsl | .sl _ _ _ => true
  | _ => false
def V.flat : V → Bool
  | .bool _ | .int _ _ | .str _ | .nilp | .nilf | .nsl | .view _ _ _ | .ptr _ _ _ | .unk => true
  | _ => false
theorem VR.data {c c' : Cx} {x : V} {v : Value} (hx : x.data = true) (h : VR c x v) (hi : ∀ b, c.I b → c'.I b) (hB : c'.B = c.B) (hw : c'.w = c.w) : VR c' x v := by
  cases h with
  | bool b => exact .bool b
  | int k n => exact .int k n
  | str s => exact .str s
  | nilp => exact .nilp
  | nilf => exact .nilf
  | nsl => exact .nsl
  | sl fr nn es v h => exact .sl fr nn es v ((h.mono (fun b hb => ⟨hi b hb.1, fun e => by rw [hB]; exact hb.2 e⟩) (fun b _ => by rw [hw])))
  | _ => cases hx
theorem VR.flat {c c' : Cx} {x : V} {v : Value} (hx : x.flat = true) (h : VR c x v) (hr : ∀ id p, c.ρ id = some p → c'.ρ id = some p) : VR c' x v := by
  cases h with
  | bool b => exact .bool b
  | int k n => exact .int k n
  | str s => exact .str s
  | nilp => exact .nilp
  | nilf => exact .nilf
  | nsl => exact .nsl
  | view id off len p o cap hp ho hl hm => exact .view id off len p o cap (hr _ _ hp) ho hl hm
  | ptr id i j p hp hm => exact .ptr id i j p (hr _ _ hp) hm
  | unk v => exact .unk v
  | _ => cases hx
section
variable {E : Env} {sz : Nat} {ops : Array Oper} {bl : List Nat} {pre : List Ef} {o : Oper} {l : List Oper} {t : Nat → V} {h : Heap} {n : Nat} {R : (Nat → V) → Heap → Nat → Prop} {v : V} {z : Operand}
end
end Go.V
namespace Go.V
open Go
set_option linter.unusedVariables false
theorem Open.fresh {E : Env} {f : FuncId} {args : List V} {h : Heap} {n m : Nat} {v : V} {wr : List (Nat × Option Blk)} (hc : callP E.P f = true) (hn : n ≤ m) (H : (∀ i, n ≤ i → h i = none) → Open E f args h n v wr m) : Open E f args h n v wr m := by
  by_cases hz : ∀ i, n ≤ i → h i = none
  · exact H hz
  · unfold Open
    refine ⟨⟨hc, hn⟩, fun c vs hg hfr _ _ => absurd (fun i hi => ?_) hz⟩
    cases hb : h i with
    | none => rfl
    | some b =>
      obtain ⟨p, hp, _⟩ := hg.blk i b hb
      rw [hfr i hi] at hp; cases hp
theorem I1 {h g : Heap} {wr : List (Nat × Option Blk)} {n : Nat} (hz : ∀ i, n ≤ i → h i = none) (h1 : ∀ j ∈ wr.map (·.1), g j = app wr h j) (h2 : ∀ j, j < n → j ∉ wr.map (·.1) → g j = h j) : LessH (app wr h) g := fun j b hj => by
  by_cases hm : j ∈ wr.map (·.1)
  · rw [h1 j hm]; exact hj
  · rw [P0 wr h j hm] at hj
    rcases Nat.lt_or_ge j n with hl | hl
    · rw [h2 j hl hm]; exact hj
    · rw [hz j hl] at hj; cases hj
end Go.V
namespace Go.V
open Go
set_option linter.unusedVariables false
set_option linter.unusedSimpArgs false
variable {E : Env} {o : Oper} {t : Nat → V} {h : Heap} {n : Nat}
def Cx.mark (c : Cx) (b m : Nat) : Cx := { c with w := c.w.freeze ⟨b, m, none⟩ 1 }
theorem L6 (w : World) {b m k : Nat} (hk : k ≠ b) : (w.freeze ⟨b, m, none⟩ 1).heap[k]? = w.heap[k]? := by
  simp [World.freeze, Array.getElem?_modify, Ne.symm hk]
theorem freeze_at (w : World) {b m : Nat} {cs : Array Value} {ty : TypeId} {fz : Nat × Nat} (hb : w.heap[b]? = some (.cells cs ty fz)) :
    (w.freeze ⟨b, m, none⟩ 1).heap[b]? = some (.cells cs ty (if fz.1 = fz.2 then (m, m + 1) else (min fz.1 m, max fz.2 (m + 1)))) := by
  obtain ⟨lo, hi⟩ := fz
  simp [World.freeze, Array.getElem?_modify, hb]
theorem I2 (w : World) {b m : Nat} : (w.freeze ⟨b, m, none⟩ 1).heap.size = w.heap.size := by simp [World.freeze]
theorem op_mark {ty e : TypeId} {x : Operand} {id off len : Nat} {b : Blk} (ho : o.op = .convert ty ty x) (hx : E.eval t x = .view id off len) (hb : h id = some b) (hu : E.P.underlying ty = some (.slice e)) (he2 : E.P.underlying e = some (.int .u8) ∧ b.sz = 1) :
    OpOK E o t h n [id] false (.view id off len) [(id, some b)] n := by
  obtain ⟨he, hs1⟩ := he2
  intro c a h2 K Q hd hx' hg hrd _ hf hK
  have h1 := hx' x (by simp [ho, Op.operands])
  rw [hx] at h1
  generalize hv : a.eval x = v at h1
  have hv0 := h1
  cases h1 with
  | view _ _ _ p o' cap hp hof hl hm =>
    have hb2 : h2 id = some b := by rw [hrd id (by simp)]; exact hb
    obtain ⟨cells, fz, q2, q3, q4, q5, q6, q7, q8⟩ := hg.cells hb2 hp hm
    have hxx : Ext c (c.mark p.b cells.size) := by
      refine ⟨rfl, fun i q hq => hq, fun _ h => h, fun k hk => L6 _ (fun (e : k = p.b) => hg.sep id b p hb2 hp (by rw [← e]; exact hk)), ?_⟩
      have hown := (hg.own id p hp).1
      exact ⟨by simp [Cx.mark, World.freeze], by simp [Cx.mark, World.freeze], by simp [Cx.mark, World.freeze], by simp [Cx.mark, I2], fun k hk => L6 _ (by omega)⟩
    have hg2 : Good E (c.mark p.b cells.size) (upd h2 id (some b)) := by
      have hsame : upd h2 id (some b) = h2 := by
        funext i
        by_cases hi : i = id
        · subst hi; rw [upd_same, hb2]
        · rw [upd_ne _ _ hi]
      rw [hsame]
      refine ⟨fun i x hi => ?_, hg.inj, fun k hk => ?_, hg.sep, fun i q hq => ?_, ?_, fun g cs hgc => (hg.glob g cs hgc).mono hxx⟩
      · obtain ⟨q, g1, g2, g3⟩ := hg.blk i x hi
        by_cases hii : i = id
        · subst hii
          rw [hb2] at hi; obtain rfl := Option.some.inj hi
          rw [hp] at g1; obtain rfl := Option.some.inj g1
          refine ⟨p, hp, fun _ => ⟨cells, _, q2, freeze_at _ q3, ?_, q5, q6, q7, fun i j x hx => let ⟨v, r1, r2, r3⟩ := q8 i j x hx; ⟨v, r1, r2.mono hxx, r3⟩⟩, fun hm' => by rw [hm] at hm'; cases hm'⟩
          split
          · exact .inr ⟨q5, hs1⟩
          · rename_i hne
            exact .inr ⟨by have := q4.resolve_left hne; simp only; omega, hs1⟩
        · have hne : q.b ≠ p.b := fun e => hii (hg.inj i id x b q p hi hb2 g1 hp e)
          exact ⟨q, g1, fun hm' => (g2 hm').mono hxx (L6 _ hne), fun hm' => (g3 hm').mono hxx (L6 _ hne)⟩
      · show k < (c.w.freeze _ 1).heap.size
        rw [I2]; exact hg.imm k hk
      · show c.B ≤ q.b ∧ q.b < (c.w.freeze _ 1).heap.size
        rw [I2]; exact hg.own i q hq
      · show c.B ≤ (c.w.freeze _ 1).heap.size
        rw [I2]; exact hg.base
    have hrun : (execOp a.eval o).run E.P c.w = .ok (.value (.slice (some ⟨p.b, o', none⟩) len cap)) (c.w.freeze ⟨p.b, cells.size, none⟩ 1) := by
      have hsh : c.w.shape? p.b = some (b.ty, cells.size) := by simp [World.shape?, q3]
      simp [execOp, ho, hv, convert, run_underlying hu, run_underlying he, markStringish, hsh]
    unfold Oper.wp
    rw [hrun, Oper.upon_value]
    exact hK (c.mark p.b cells.size) _ hxx hg2 (fun i hi => .inl hi) (hv0.mono hxx)
variable {sz : Nat} {ops : Array Oper} {l : List Oper} {bl : List Nat} {pre : List Ef} {R : (Nat → V) → Heap → Nat → Prop} {ty e : TypeId} {x : Operand}
end Go.V
namespace Go.V
open Go
set_option linter.unusedVariables false
set_option linter.unusedSimpArgs false
def V.flat2 : V → Bool
  | .agg cs => cs.all V.flat
  | x => x.flat
def V.flat3 : V → Bool
  | .tup vs => vs.all V.flat2
  | x => x.flat2
theorem VR.flat2 {c c' : Cx} {x : V} {v : Value} (hx : x.flat2 = true) (h : VR c x v) (hr : ∀ id p, c.ρ id = some p → c'.ρ id = some p) : VR c' x v := by
  cases h with
  | agg cs vs hl h =>
    refine .agg cs vs hl fun i x u h1 h2 => VR.flat ?_ (h i x u h1 h2) hr
    unfold V.flat2 at hx
    exact List.all_eq_true.1 hx x (List.mem_of_getElem? h1)
  | bool b => exact .bool b
  | int k n => exact .int k n
  | str s => exact .str s
  | nilp => exact .nilp
  | nilf => exact .nilf
  | nsl => exact .nsl
  | view id off len p o cap hp ho hl hm => exact .view id off len p o cap (hr _ _ hp) ho hl hm
  | ptr id i j p hp hm => exact .ptr id i j p (hr _ _ hp) hm
  | unk v => exact .unk v
  | _ => cases hx
theorem VR.flat3 {c c' : Cx} {x : V} {v : Value} (hx : x.flat3 = true) (h : VR c x v) (hr : ∀ id p, c.ρ id = some p → c'.ρ id = some p) : VR c' x v := by
  by_cases ht : ∃ vs, x = .tup vs
  · obtain ⟨vs, rfl⟩ := ht
    cases h with
    | tup _ us hl h =>
      refine .tup vs us hl fun i x u h1 h2 => VR.flat2 ?_ (h i x u h1 h2) hr
      unfold V.flat3 at hx
      exact List.all_eq_true.1 hx x (List.mem_of_getElem? h1)
  · refine VR.flat2 ?_ h hr
    unfold V.flat3 at hx
    cases x <;> first | exact hx | exact absurd ⟨_, rfl⟩ ht
theorem op_freshS {E : Env} {o : Oper} {t : Nat → V} {h : Heap} {n n' : Nat} {fo : Operand} {args : Array Operand} {tys : Array TypeId} {f : FuncId} {vs : List V} {az : List A} {ids : List Nat} {v : V} {wr : List (Nat × Option Blk)}
    (ho : o.op = .call { callee := .value fo, args := args, argTypes := tys }) (hc : E.eval t fo = .clo f []) (hv : args.toList.map (E.eval t) = vs) (hs : SnapL h ids false vs az) (hop : Open E f (az.map (A.toV false)) (fun _ => none) n v wr n')
    (hfl : v.flat3 = true) (hwf : ∀ id b, app wr (fun _ => none) id = some b → ∀ e ∈ b.es, ∀ x ∈ e, x.flat = true) :
    OpOK E o t h n ids false v wr n' := by
  intro c a h2 K Q hd hx hg hrd _ hf hK
  obtain ⟨cs, hrun, hcl, hcr⟩ := Z7 ho hc hx (by unfold Open at hop; exact hop.1.1)
  have hcs : cs = #[] := Array.eq_empty_of_size_eq_zero (by simpa using hcl.symm)
  subst hcs
  simp only [Array.append_empty] at hrun
  unfold Oper.wp
  rw [hrun, Oper.upon_enter]
  let c0 : Cx := { ρ := fun _ => none, I := fun b => b < c.w.heap.size, B := c.B, w := c.w }
  have hg0 : Good E c0 (fun _ => none) := by
    refine ⟨fun _ _ h => (nomatch h), fun _ _ _ _ _ _ h => (nomatch h), fun _ h => h, fun _ _ _ h => (nomatch h), fun _ _ h => (nomatch h), hg.base, fun g cs hgc => ?_⟩
    have := hg.glob g cs hgc
    cases this with
    | iptr _ _ b off rd hI hrd' hsub =>
      exact .iptr false cs g 0 rd ⟨hg.imm _ hI.1, by simp⟩ hrd' fun j x hj => (hsub j x hj).mono (fun b hb => ⟨hg.imm _ hb.1, by simp⟩) fun _ _ => rfl
  unfold Open at hop
  have hlive0 : ∀ b, Seen c h2 false b → b < c.w.heap.size := by
    rintro b ⟨h1 | ⟨id, x, p, _, h4, rfl⟩, _⟩
    · exact hg.imm b h1
    · exact (hg.own id p h4).2
  have hsp := hs.spec
  refine Calls.mono (hop.2 c0 (args.map a.eval) hg0 (fun _ _ => rfl) (by rw [List.length_map, ← hsp.1, ← hv]; simp) (fun i x u h1 h3 => ?_)) ?_
  · rw [List.getElem?_map] at h1
    rw [Array.getElem?_map] at h3
    cases hx' : args[i]? with
    | none => simp [hx'] at h3
    | some y =>
      have hx2 : args.toList[i]? = some y := by simpa using hx'
      simp only [hx', Option.map_some, Option.some.injEq] at h3
      cases ha : az[i]? with
      | none => simp [ha] at h1
      | some z =>
        simp only [ha, Option.map_some, Option.some.injEq] at h1
        subst h1; subst h3
        have hz := (hsp.2 i (E.eval t y) z (by rw [← hv, List.getElem?_map, hx2]; rfl) ha).congr hrd
        have := hz.ok hg (hx y (by simp [ho, Op.operands, Call.operands]; exact .inr (Array.mem_of_getElem? hx')))
        exact (this.mono (I' := c0.J false) (fun b hb => ⟨hlive0 b hb, by simp⟩) (fun _ _ => rfl)).toV
  · rintro e w' ⟨u, c', rfl, rfl, hx2, hg2, hd2, hv2⟩
    have hdom : ∀ id p, c'.ρ id = some p → n ≤ id ∧ id < n' := fun id p hp => by
      rcases hd2 id (by rw [hp]; nofun) with h1 | h1
      · exact absurd rfl h1
      · exact h1
    have hsz : c.w.heap.size ≤ c'.w.heap.size := hx2.below.size
    have hBB : c'.B = c.B := hx2.B
    have hnew : ∀ id b p, app wr (fun _ => none) id = some b → c'.ρ id = some p → c.w.heap.size ≤ p.b := fun id b p h1 h3 => by
      rcases Nat.lt_or_ge p.b c.w.heap.size with h4 | h4
      · exact absurd (hx2.imm _ h4) (hg2.sep id b p h1 h3)
      · exact h4
    let c2 : Cx := { ρ := fun id => (c'.ρ id).or (c.ρ id), I := fun b => c.I b, B := c.B, w := c'.w }
    have r1 : ∀ id p, c.ρ id = some p → c2.ρ id = some p := fun id p hp => by
      show (c'.ρ id).or (c.ρ id) = some p
      cases hq : c'.ρ id with
      | none => simpa using hp
      | some q =>
        have := hdom id q hq
        rw [hf id this.1 this.2] at hp; cases hp
    have r2 : ∀ id p, c'.ρ id = some p → c2.ρ id = some p := fun id p hp => by
      show (c'.ρ id).or (c.ρ id) = some p
      rw [hp]; rfl
    have keep : ∀ b, b < c.w.heap.size → c'.w.heap[b]? = c.w.heap[b]? := fun b hb => hx2.keep b hb
    have hx3 : Ext c c2 := ⟨rfl, r1, fun b h => h, fun b hb => keep b (hg.imm b hb), hx2.below⟩
    have hlive : ∀ id b, app wr h2 id = some b → (∃ p, app wr (fun _ => none) id = some b ∧ c'.ρ id = some p) ∨ (id ∉ wr.map (·.1) ∧ h2 id = some b ∧ ∃ p, c.ρ id = some p) := fun id b hb => by
      by_cases hm : id ∈ wr.map (·.1)
      · rw [app_mem wr h2 (fun _ => none) id hm] at hb
        obtain ⟨p, h1, _⟩ := hg2.blk id b hb
        exact .inl ⟨p, hb, h1⟩
      · rw [P0 wr h2 id hm] at hb
        obtain ⟨p, h1, _⟩ := hg.blk id b hb
        exact .inr ⟨hm, hb, p, h1⟩
    refine hK c2 u hx3 ?_ ?_ (VR.flat3 hfl hv2 r2)
    · refine ⟨fun id b hb => ?_, fun id id' b b' p p' hb hb' hp hp' hpp => ?_, fun b hb => Nat.lt_of_lt_of_le (hg.imm b hb) hsz, fun id b p hb hp hI => ?_, fun id p hp => ?_, Nat.le_trans hg.base hsz, fun g cs hgc => (hg.glob g cs hgc).mono hx3⟩
      · rcases hlive id b hb with ⟨p, h1, h3⟩ | ⟨_, h1, p, h3⟩
        · obtain ⟨q, k1, k2, k3⟩ := hg2.blk id b h1
          refine ⟨q, r2 _ _ k1, fun hm => ?_, fun hm => ?_⟩
          rotate_left
          · obtain ⟨es, j1, j2, j3⟩ := k3 hm
            refine ⟨es, j1, j2, fun i row hr => ?_⟩
            obtain ⟨e, k, x, m1, m2, m3, m4, m5⟩ := j3 i row hr
            have hfr := hwf id b h1 row (List.mem_of_getElem? hr)
            exact ⟨e, k, x, m1, m2, m3, VR.flat (hfr k (by rw [m2]; simp)) m4 r2, VR.flat (hfr x (by rw [m2]; simp)) m5 r2⟩
          obtain ⟨cells, fz, j2, j3, j4, j5, j6, j7, j8⟩ := k2 hm
          refine ⟨cells, fz, j2, j3, j4, j5, j6, j7, fun i j x hx => ?_⟩
          obtain ⟨w, m1, m2, m3⟩ := j8 i j x hx
          refine ⟨w, m1, VR.flat ?_ m2 r2, m3⟩
          unfold get2 at hx
          cases he : b.es[i]? with
          | none => simp [he] at hx
          | some e =>
            simp only [he, Option.bind_some] at hx
            exact hwf id b h1 e (List.mem_of_getElem? he) x (List.mem_of_getElem? hx)
        · obtain ⟨q, k1, k2, k3⟩ := hg.blk id b h1
          have hk := keep q.b (hg.own id q k1).2
          exact ⟨q, r1 _ _ k1, fun hm => (k2 hm).mono hx3 hk, fun hm => (k3 hm).mono hx3 hk⟩
      · have key : ∀ id b p, app wr h2 id = some b → c2.ρ id = some p → (app wr (fun _ => none) id = some b ∧ c'.ρ id = some p ∧ c.w.heap.size ≤ p.b) ∨ (h2 id = some b ∧ c.ρ id = some p ∧ p.b < c.w.heap.size) := fun id b p hb hp => by
          rcases hlive id b hb with ⟨q, h1, h3⟩ | ⟨_, h1, q, h3⟩
          · have := r2 _ _ h3
            rw [this] at hp; obtain rfl := Option.some.inj hp
            exact .inl ⟨h1, h3, hnew _ _ _ h1 h3⟩
          · have := r1 _ _ h3
            rw [this] at hp; obtain rfl := Option.some.inj hp
            exact .inr ⟨h1, h3, (hg.own _ _ h3).2⟩
        rcases key id b p hb hp with ⟨a1, a2, a3⟩ | ⟨a1, a2, a3⟩ <;> rcases key id' b' p' hb' hp' with ⟨b1, b2, b3⟩ | ⟨b1, b2, b3⟩
        · exact hg2.inj id id' b b' p p' a1 b1 a2 b2 hpp
        · omega
        · omega
        · exact hg.inj id id' b b' p p' a1 b1 a2 b2 hpp
      · rcases hlive id b hb with ⟨q, h1, h3⟩ | ⟨_, h1, q, h3⟩
        · have := r2 _ _ h3
          rw [this] at hp; obtain rfl := Option.some.inj hp
          have := hnew _ _ _ h1 h3
          have := hg.imm _ hI
          omega
        · have := r1 _ _ h3
          rw [this] at hp; obtain rfl := Option.some.inj hp
          exact hg.sep id b _ h1 h3 hI
      · have hp2 : (c'.ρ id).or (c.ρ id) = some p := hp
        cases hq : c'.ρ id with
        | some q =>
          rw [hq] at hp2
          obtain rfl : q = p := by simpa using hp2
          have := hg2.own id q hq
          rw [hBB] at this; exact this
        | none =>
          rw [hq] at hp2
          have := hg.own id p (by simpa using hp2)
          exact ⟨this.1, Nat.lt_of_lt_of_le this.2 hsz⟩
    · intro id hid
      have hid2 : (c'.ρ id).or (c.ρ id) ≠ none := hid
      cases hq : c'.ρ id with
      | some q => exact .inr (hdom id q hq)
      | none => rw [hq] at hid2; exact .inl (by simpa using hid2)
section
variable {E : Env} {sz : Nat} {ops : Array Oper} {bl : List Nat} {pre : List Ef} {o : Oper} {l : List Oper} {t : Nat → V} {h : Heap} {n : Nat} {R : (Nat → V) → Heap → Nat → Prop} {v : V} {z : Operand}
end
end Go.V
namespace Go.V
open Go
set_option linter.unusedVariables false
set_option linter.unusedSimpArgs false
inductive Sh where
  | bool
  | int (k : IntKind)
  | str
  | sl (l : List Sh)
mutual
inductive HasSh : T → Sh → Prop
  | bool (b : Bool) : HasSh (.bool b) .bool
  | int (k : IntKind) (n : Int) (h : (Lit.int k n).wf = true) : HasSh (.int k n) (.int k)
  | str (s : ByteArray) (h : s.size ≤ maxLen) : HasSh (.str s) .str
  | sl (es : List (List T)) (l : List Sh) (h : es.length ≤ maxLen) (hs : ∀ e ∈ es, Shs e l) : HasSh (.sl false es) (.sl l)
inductive Shs : List T → List Sh → Prop
  | nil : Shs [] []
  | cons (x : T) (s : Sh) (xs : List T) (l : List Sh) (h : HasSh x s) (hs : Shs xs l) : Shs (x :: xs) (s :: l)
end
theorem addA (a : Addr) (i j : Nat) : (a.add i).add j = a.add (i + j) := by
  unfold Addr.add
  by_cases hi : i = 0 <;> by_cases hj : j = 0 <;> simp [hi, hj, Nat.add_assoc]
theorem addP (b o i : Nat) : (⟨b, o, none⟩ : Addr).add i = ⟨b, o + i, none⟩ := by unfold Addr.add; split <;> simp_all
theorem Shs.length {xs : List T} {l : List Sh} (h : Shs xs l) : xs.length = l.length := by
  induction xs generalizing l with
  | nil => cases h; rfl
  | cons x xs ih => cases h with | cons _ _ _ _ _ hs => simp [ih hs]
theorem Shs.append {xs ys : List T} {l m : List Sh} (h : Shs xs l) (k : Shs ys m) : Shs (xs ++ ys) (l ++ m) := by
  induction xs generalizing l with
  | nil => cases h; exact k
  | cons x xs ih => cases h with | cons _ s _ l h hs => exact .cons x s _ _ h (ih hs)
def shFs (P : Program) (rec : TypeId → Option (List Sh)) : Nat → List Field → Option (List Sh)
  | _, [] => some []
  | off, f :: fs => match rec f.type with
    | none => none
    | some l => if f.offset = off ∧ P.cellsOf f.type = l.length then (shFs P rec (off + l.length) fs).map (l ++ ·) else none
def shOf (P : Program) : Nat → TypeId → Option (List Sh)
  | 0, _ => none
  | d + 1, t => match P.underlying t with
    | some .bool => some [.bool]
    | some (.int k) => some [.int k]
    | some .string => some [.str]
    | some (.slice e) => match shOf P d e with
      | some l => if P.cellsOf e = l.length ∧ l ≠ [] then some [.sl l] else none
      | none => none
    | some (.struct fs) => match shFs P (shOf P d) 0 fs.toList with
      | some l => if P.cellsOf t = l.length then some l else none
      | none => none
    | _ => none
def Opened (w : World) (cs : List Value) (l : List Sh) : Prop :=
  ∃ xs : List T, xs.length = cs.length ∧ Shs xs l ∧ ∀ (i : Nat) (x : T) (v : Value), xs[i]? = some x → cs[i]? = some v → TR (fun b => b < w.heap.size) w x v
theorem Opened.one {w : World} {v : Value} {x : T} {s : Sh} (h : HasSh x s) (t : TR (fun b => b < w.heap.size) w x v) : Opened w [v] [s] :=
  ⟨[x], rfl, .cons _ _ _ _ h .nil, fun i y u h1 h2 => by
    cases i with
    | zero => simp only [List.getElem?_cons_zero, Option.some.injEq] at h1 h2; subst h1; subst h2; exact t
    | succ i => simp at h1⟩
section
variable {H : Type} {enc : TypeId × Value → H} {P : Program} {w : World} {base : Nat} {spare : Nat → Bool} {held : Bool}
theorem open_fs {rec : TypeId → Option (List Sh)} {n : Nat} (ih : ∀ (t : TypeId) (cs : List Value) (x : DataW H × List MemPlace) (l : List Sh), rec t = some l → DataW.trod enc P w base spare held n t cs = some x → Opened w cs l) :
    ∀ (fs : List Field) (off : Nat) (l : List Sh) (cs : List Value), shFs P rec off fs = some l → cs.length = off + l.length →
      (∀ f ∈ fs, ∃ y, DataW.trod enc P w base spare held n f.type ((cs.drop f.offset).take (P.cellsOf f.type)) = some y) → Opened w (cs.drop off) l
  | [], off, l, cs, h, hl, _ => by
    simp only [shFs, Option.some.injEq] at h
    subst h
    refine ⟨[], ?_, .nil, fun i x v h1 => by simp at h1⟩
    simp only [List.length_nil, Nat.add_zero] at hl
    simp [hl]
  | f :: fs, off, l, cs, h, hl, hf => by
    unfold shFs at h
    cases hr : rec f.type with
    | none => rw [hr] at h; cases h
    | some l1 =>
      rw [hr] at h
      simp only at h
      split at h
      · rename_i hc
        obtain ⟨l2, h2, rfl⟩ := Option.map_eq_some_iff.1 h
        simp only [List.length_append] at hl
        obtain ⟨y, hy⟩ := hf f List.mem_cons_self
        rw [hc.1, hc.2] at hy
        obtain ⟨xs1, e1, s1, t1⟩ := ih f.type _ y l1 hr hy
        obtain ⟨xs2, e2, s2, t2⟩ := open_fs ih fs (off + l1.length) l2 cs h2 (by omega) (fun g hg => hf g (List.mem_cons_of_mem _ hg))
        have q1 : xs1.length = l1.length := s1.length
        refine ⟨xs1 ++ xs2, by rw [List.length_append, e2, List.length_drop, List.length_drop]; omega, s1.append s2, fun i x v g1 g2 => ?_⟩
        rcases Nat.lt_or_ge i l1.length with hi | hi
        · rw [List.getElem?_append_left (by omega)] at g1
          exact t1 i x v g1 (by rw [List.getElem?_take_of_lt hi]; exact g2)
        · rw [List.getElem?_append_right (by omega)] at g1
          refine t2 (i - xs1.length) x v g1 ?_
          rw [List.getElem?_drop] at g2 ⊢
          rw [q1, show off + l1.length + (i - l1.length) = off + i by omega]; exact g2
      · cases h
theorem open_gen : ∀ (d fuel : Nat) (t : TypeId) (cs : List Value) (x : DataW H × List MemPlace) (l : List Sh), shOf P d t = some l → DataW.trod enc P w base spare held fuel t cs = some x → Opened w cs l
  | 0, _, _, _, _, _, h, _ => by simp [shOf] at h
  | d + 1, fuel, t, cs, x, l, h, hx => by
    unfold shOf at h
    split at h
    · rename_i hu
      simp only [Option.some.injEq] at h; subst h
      obtain ⟨b, rfl, _⟩ := DataW.trod_bool hu hx
      exact Opened.one (.bool b) (.bool b)
    · rename_i k hu
      simp only [Option.some.injEq] at h; subst h
      obtain ⟨n, rfl, _, hw⟩ := DataW.trod_int hu hx
      exact Opened.one (.int k n hw) (.int k n)
    · rename_i hu
      simp only [Option.some.injEq] at h; subst h
      obtain ⟨s, rfl, _, hs⟩ := DataW.trod_string hu hx
      exact Opened.one (.str s hs) (.str s)
    · rename_i e hu
      split at h
      · rename_i le hle
        split at h
        · rename_i hc
          simp only [Option.some.injEq] at h; subst h
          rcases DataW.trod_slice hu hx with ⟨rfl, _⟩ | ⟨a, len, cap, elems, rest, n, rfl, rfl, _, hb, hl, hm, hlen, hel, _⟩
          · exact Opened.one (.sl [] le (Nat.zero_le _) (fun e he => nomatch he)) (.sl false [] none 0 0 0 (fun _ _ => undef) rfl (Nat.le_refl _) (fun _ => ⟨rfl, rfl, rfl⟩) (fun A hA => by cases hA) (by simp) (fun A _ _ _ hA => by cases hA) (fun i j c hc => by simp [get2] at hc))
          · have key : ∀ i, i < len → ∃ xs : List T, Shs xs le ∧ ∀ j y, xs[j]? = some y → ∃ v, w.cell? (a.add (i * le.length + j)) = some v ∧ TR (fun b => b < w.heap.size) w y v := fun i hi => by
              have h1 := hel i hi
              rw [List.getElem?_eq_getElem (by omega)] at h1
              obtain ⟨cs', h2, h3⟩ := Option.bind_eq_some_iff.1 h1
              obtain ⟨xs, q1, q2, q3⟩ := open_gen d n e cs' _ le hle h3
              obtain ⟨_, r1, r2⟩ := World.cells?_some h2
              refine ⟨xs, q2, fun j y hy => ?_⟩
              have hj : j < cs'.length := by rw [← q1]; exact (List.getElem?_eq_some_iff.1 hy).1
              have hc2 := r2 j (by omega)
              rw [List.getElem?_eq_getElem hj, addA, hc.1] at hc2
              exact ⟨_, hc2, q3 j y _ hy (List.getElem?_eq_getElem hj)⟩
            let row : Nat → List T := fun i => if h : i < len then Classical.choose (key i h) else []
            have hrow : ∀ i, i < len → Shs (row i) le ∧ ∀ j y, (row i)[j]? = some y → ∃ v, w.cell? (a.add (i * le.length + j)) = some v ∧ TR (fun b => b < w.heap.size) w y v := fun i hi => by
              have := Classical.choose_spec (key i hi)
              simp only [row, hi, dif_pos]; exact this
            have hget : ∀ i j y, get2 ((List.range len).map row) i j = some y → i < len ∧ (row i)[j]? = some y := fun i j y hy => by
              unfold get2 at hy
              rcases Nat.lt_or_ge i len with hi | hi
              · simp only [List.getElem?_map, List.getElem?_range hi, Option.map_some, Option.bind_some] at hy; exact ⟨hi, hy⟩
              · rw [List.getElem?_eq_none (by simpa using hi)] at hy; simp at hy
            have hspot : 0 < len → a.spot = none ∧ a.block < w.heap.size := fun h0 => by
              obtain ⟨q1, q2⟩ := hrow 0 h0
              have hne : (row 0).length ≠ 0 := by rw [q1.length]; intro e; exact hc.2 (List.length_eq_zero_iff.1 e)
              obtain ⟨v, hv, _⟩ := q2 0 _ (List.getElem?_eq_getElem (by omega))
              have hs := World.cell?_spot hv
              have hs2 : a.spot = none := by simpa [Addr.add] using hs
              refine ⟨hs2, ?_⟩
              unfold World.cell? at hv
              have : w.heap[a.block]? ≠ none := fun e => by simp [Addr.add, e] at hv
              rcases Nat.lt_or_ge a.block w.heap.size with h | h
              · exact h
              · exact absurd (Array.getElem?_eq_none h) this
            refine Opened.one (.sl ((List.range len).map row) le (by rw [List.length_map, List.length_range]; omega) (fun e he => ?_)) ?_
            · obtain ⟨i, hi, rfl⟩ := List.mem_map.1 he
              exact (hrow i (List.mem_range.1 hi)).1
            · refine .sl false _ (some a) len cap le.length (fun i j => (w.cell? ⟨a.block, a.off + i * le.length + j, none⟩).getD undef) (by simp) hl (fun h => by cases h) (fun A hA hne => ?_) (fun e he => ?_) (fun A i j c hA hg => ?_) (fun i j c hg => ?_)
              · cases hA
                exact hspot (by
                  rcases Nat.eq_zero_or_pos len with h | h
                  · subst h; exact absurd rfl hne
                  · exact h)
              · obtain ⟨i, hi, rfl⟩ := List.mem_map.1 he
                exact (hrow i (List.mem_range.1 hi)).1.length
              · cases hA
                obtain ⟨hi, hy⟩ := hget i j c hg
                obtain ⟨v, hv, _⟩ := (hrow i hi).2 j c hy
                have hs := (hspot (by omega)).1
                have e : a.add (i * le.length + j) = ⟨a.block, a.off + i * le.length + j, none⟩ := by
                  obtain ⟨b, o, sp⟩ := a
                  simp only at hs; subst hs
                  rw [addP, Nat.add_assoc]
                rw [e] at hv
                rw [hv]; rfl
              · obtain ⟨hi, hy⟩ := hget i j c hg
                obtain ⟨v, hv, ht⟩ := (hrow i hi).2 j c hy
                have hs := (hspot (by omega)).1
                have e : a.add (i * le.length + j) = ⟨a.block, a.off + i * le.length + j, none⟩ := by
                  obtain ⟨b, o, sp⟩ := a
                  simp only at hs; subst hs
                  rw [addP, Nat.add_assoc]
                rw [e] at hv
                rw [hv]; exact ht
        · cases h
      · cases h
    · rename_i fs hu
      split at h
      · rename_i lf hlf
        split at h
        · rename_i hc
          simp only [Option.some.injEq] at h; subst h
          obtain ⟨xs, n, _, _, hl, hxl, hf⟩ := DataW.trod_struct hu hx
          have := open_fs (P := P) (w := w) (rec := shOf P d) (n := n) (fun t' cs' x' l' h1 h2 => open_gen d n t' cs' x' l' h1 h2) fs.toList 0 lf cs hlf (by omega) (fun f hfm => ?_)
          · simpa using this
          · obtain ⟨i, hi, rfl⟩ := List.getElem_of_mem hfm
            have hi' : i < fs.size := by simpa using hi
            have := hf i (fs.toList[i]) (by simp [hi'])
            rw [List.getElem?_eq_getElem (by omega)] at this
            exact ⟨_, this⟩
        · cases h
      · cases h
    · cases h
end
theorem rows_of {α : Type} {f : α → List T} : ∀ (es : List (List T)), (∀ e ∈ es, ∃ r, f r = e) → ∃ L : List α, es = L.map f
  | [], _ => ⟨[], rfl⟩
  | e :: es, h => by
    obtain ⟨r, rfl⟩ := h e List.mem_cons_self
    obtain ⟨L, rfl⟩ := rows_of es fun e he => h e (List.mem_cons_of_mem _ he)
    exact ⟨r :: L, rfl⟩
end Go.V
namespace Go.V
open Go
set_option linter.unusedVariables false
set_option linter.unusedSimpArgs false
def famL (w : Nat → Nat) (F : Nat → Option Blk) (n : Nat) : List (Nat × Option Blk) := (List.range n).map fun i => (w i, F i)
theorem O4 : ∀ (l m : List (Nat × Option Blk)) (h : Heap), app (l ++ m) h = app m (app l h)
  | [], m, h => rfl
  | (i, b) :: l, m, h => O4 l m (upd h i b)
end Go.V
namespace Go.V
open Go
open Go.RowKit (Below)
set_option linter.unusedVariables false
set_option linter.unusedSimpArgs false
section ops
variable {E : Env} {o : Oper} {t : Nat → V} {h : Heap} {n : Nat}
end ops
def putR (es : List (List V)) (d : Nat) (ys : List (List V)) : List (List V) := es.take d ++ ys ++ es.drop (d + ys.length)
theorem putR_len {es : List (List V)} {d : Nat} {ys : List (List V)} (hd : d ≤ es.length) : (putR es d ys).length = max es.length (d + ys.length) := by
  simp [putR]; omega
theorem putR_get {es : List (List V)} {d : Nat} {ys : List (List V)} (hd : d ≤ es.length) (i : Nat) : (putR es d ys)[i]? = if i < d then es[i]? else if i < d + ys.length then ys[i - d]? else es[i]? := by
  unfold putR
  have e1 : (es.take d).length = d := by simp; omega
  by_cases h1 : i < d
  · rw [if_pos h1, List.append_assoc, List.getElem?_append_left (by omega), List.getElem?_take_of_lt h1]
  · rw [if_neg h1, List.append_assoc, List.getElem?_append_right (by omega), e1]
    by_cases h2 : i < d + ys.length
    · rw [if_pos h2, List.getElem?_append_left (by omega)]
    · rw [if_neg h2, List.getElem?_append_right (by omega), List.getElem?_drop]; congr 1; omega
def Cx.put (c : Cx) (p : Place) (o : Nat) (vs : List Value) : Cx := { c with w := c.w.setCells p.b o vs }
theorem Good.put {E : Env} {c : Cx} {h : Heap} (hg : Good E c h) {id : Nat} {b : Blk} {p : Place} (hb : h id = some b) (hp : c.ρ id = some p) (hpm : p.m = false) {d : Nat} {ys : List (List V)} {news : List Value}
    (hd : d ≤ b.es.length) (hyz : ∀ e ∈ ys, e.length = b.sz) (hnl : news.length = ys.length * b.sz) (hget : ∀ i j x, get2 ys i j = some x → ∃ u, news[i * b.sz + j]? = some u ∧ VR c x u)
    (hone : ∀ u ∈ news, u.oneCell' = true) (hfit : (d + ys.length) * b.sz ≤ p.cap ∨ ys = []) :
    Ext c (c.put p (p.o + d * b.sz) news) ∧ Good E (c.put p (p.o + d * b.sz) news) (upd h id (some ⟨putR b.es d ys, b.sz, b.ty⟩)) := by
  have hx : Ext c (c.put p (p.o + d * b.sz) news) :=
    ⟨rfl, fun i q hq => hq, fun _ h => h, fun k hk => D4 _ _ (fun (e : k = p.b) => hg.sep id b p hb hp (by rw [← e]; exact hk)) _ _ _, H8 _ _ (hg.own id p hp).1 _ _ _ _ (Below.refl _ _)⟩
  refine ⟨hx, ?_⟩
  obtain ⟨cells, fz, q2, q3, q4, q5, q6, q7, q8⟩ := hg.cells hb hp hpm
  have hlive : ∀ i x, (upd h id (some ⟨putR b.es d ys, b.sz, b.ty⟩)) i = some x → (i = id ∧ x = ⟨putR b.es d ys, b.sz, b.ty⟩) ∨ (i ≠ id ∧ h i = some x) := by
    intro i x hi
    by_cases h1 : i = id
    · subst h1; rw [upd_same] at hi; exact .inl ⟨rfl, (Option.some.inj hi).symm⟩
    · rw [upd_ne _ _ h1] at hi; exact .inr ⟨h1, hi⟩
  have hthere : ∀ i x, (upd h id (some ⟨putR b.es d ys, b.sz, b.ty⟩)) i = some x → ∃ x', h i = some x' := fun i x hi => by
    rcases hlive i x hi with ⟨rfl, _⟩ | ⟨_, h1⟩
    · exact ⟨_, hb⟩
    · exact ⟨_, h1⟩
  have hfit' : (d + ys.length) * b.sz ≤ p.cap := by
    rcases hfit with hf | rfl
    · exact hf
    · exact Nat.le_trans (Nat.mul_le_mul_right _ (by simpa using hd)) q6
  refine ⟨fun i x hi => ?_, fun i i' x x' r r' hi hi' hr hr' he => ?_, fun k hk => ?_, fun i x r hi hr => ?_, fun i r hr => ?_, ?_, fun g cs hgc => (hg.glob g cs hgc).mono hx⟩
  · rcases hlive i x hi with ⟨rfl, rfl⟩ | ⟨h1, h3⟩
    · refine ⟨p, hp, fun _ => ⟨setArr cells (p.o + d * b.sz) news, fz, q2, I9 _ _ _ _ _ _ _ q3, q4, by rw [H3]; exact q5, ?_, ?_, ?_⟩, fun h => by rw [hpm] at h; cases h⟩
      · show (putR b.es d ys).length * b.sz ≤ p.cap
        rw [putR_len hd]
        rcases Nat.le_total b.es.length (d + ys.length) with h | h
        · rw [Nat.max_eq_right h]; exact hfit'
        · rw [Nat.max_eq_left h]; exact q6
      · intro e he
        unfold putR at he
        rcases List.mem_append.1 he with h9 | h9
        · rcases List.mem_append.1 h9 with h8 | h8
          · exact q7 e (List.mem_of_mem_take h8)
          · exact hyz e h8
        · exact q7 e (List.mem_of_mem_drop h9)
      · intro i' j y hy
        show ∃ v, (setArr cells (p.o + d * b.sz) news)[p.o + i' * b.sz + j]? = some v ∧ _
        have hy0 : ((putR b.es d ys)[i']?).bind (·[j]?) = some y := hy
        rw [putR_get hd] at hy0
        have old : get2 b.es i' j = some y → (i' < d ∨ d + ys.length ≤ i') → ∃ v, (setArr cells (p.o + d * b.sz) news)[p.o + i' * b.sz + j]? = some v ∧ VR (c.put p (p.o + d * b.sz) news) y v ∧ v.oneCell' = true := fun hy2 hout => by
          obtain ⟨v, g1, g2, g3⟩ := q8 _ _ _ hy2
          have hj : j < b.sz := by
            unfold get2 at hy2
            cases hes : b.es[i']? with
            | none => simp [hes] at hy2
            | some e =>
              simp only [hes, Option.bind_some] at hy2
              have := (List.getElem?_eq_some_iff.1 hy2).1
              rw [q7 e (List.mem_of_getElem? hes)] at this; exact this
          refine ⟨v, ?_, g2.mono hx, g3⟩
          rw [D5 _ _ _ _ ?_, g1]
          rcases hout with h | h
          · left
            have e2 : (i' + 1) * b.sz ≤ d * b.sz := Nat.mul_le_mul_right _ h
            rw [Nat.succ_mul] at e2; omega
          · right
            have e2 : (d + ys.length) * b.sz ≤ i' * b.sz := Nat.mul_le_mul_right _ h
            rw [Nat.add_mul] at e2; rw [hnl]; omega
        by_cases h1 : i' < d
        · rw [if_pos h1] at hy0; exact old hy0 (.inl h1)
        · rw [if_neg h1] at hy0
          by_cases h2 : i' < d + ys.length
          · rw [if_pos h2] at hy0
            obtain ⟨u, g1, g2⟩ := hget (i' - d) j y hy0
            have hlt : (i' - d) * b.sz + j < news.length := (List.getElem?_eq_some_iff.1 g1).1
            refine ⟨u, ?_, g2.mono hx, hone u (List.mem_of_getElem? g1)⟩
            have e1 : p.o + i' * b.sz + j = p.o + d * b.sz + ((i' - d) * b.sz + j) := by
              have : i' * b.sz = d * b.sz + (i' - d) * b.sz := by rw [← Nat.add_mul]; congr 1; omega
              omega
            rw [e1]
            refine E9 news cells _ _ u ?_ g1
            rw [hnl]
            rw [Nat.add_mul] at hfit'; omega
          · rw [if_neg h2] at hy0; exact old hy0 (.inr (by omega))
    · obtain ⟨r, g1, g2, g3⟩ := hg.blk i x h3
      have this : r.b ≠ p.b := fun e => h1 (hg.inj i id x b r p h3 hb g1 hp e)
      have hk : (c.put p (p.o + d * b.sz) news).w.heap[r.b]? = c.w.heap[r.b]? := D4 _ _ this _ _ _
      exact ⟨r, g1, fun hm => (g2 hm).mono hx hk, fun hm => (g3 hm).mono hx hk⟩
  · obtain ⟨y, hy⟩ := hthere i x hi
    obtain ⟨y', hy'⟩ := hthere i' x' hi'
    exact hg.inj i i' y y' r r' hy hy' hr hr' he
  · simp only [Cx.put, C9]; exact hg.imm k hk
  · obtain ⟨y, hy⟩ := hthere i x hi
    exact hg.sep i y r hy hr
  · simp only [Cx.put, C9]; exact hg.own i r hr
  · simp only [Cx.put, C9]; exact hg.base
section ops2
variable {E : Env} {o : Oper} {t : Nat → V} {h : Heap} {n : Nat}
end ops2
def dstV : V → Option (Nat × Nat × Nat)
  | .view id off len => some (id, off, len)
  | .vcap id off len _ => some (id, off, len)
  | _ => none
section ops3
variable {E : Env} {o : Oper} {t : Nat → V} {h : Heap} {n : Nat}
end ops3
def zeroOne (P : Program) (e : TypeId) : Bool := match P.info? e with
  | some i => match i.zero with
    | some z => z.cells.all fun v => v.oneCell'
    | none => false
  | none => false
section ops4
variable {E : Env} {o : Oper} {t : Nat → V} {h : Heap} {n : Nat}
end ops4
section ops5
variable {E : Env} {o : Oper} {t : Nat → V} {h : Heap} {n : Nat}
def ApartRun (P : Program) (f : FuncId) : Prop := ∀ (w : World) (a b : Addr) (la ca lb cb : Nat) (tA tB : TypeId) (kA kB : Nat), a.block ≠ b.block → w.shape? a.block = some (tA, kA) → w.shape? b.block = some (tB, kB) → kB ≠ 0 →
  w.frozen? a = false → w.frozen? { block := a.block, off := kA } = false → (callFunc f #[.slice (some a) la ca, .slice (some b) lb cb]).run P w = .ok (.value (.bool false)) w
end ops5
end Go.V
namespace Go.V
open Go
set_option linter.unusedVariables false
section
variable {E : Env} {sz : Nat} {t : Nat → V} {h : Heap} {n : Nat} {ops : Array Oper} {l : List Oper} {o : Oper} {bl : List Nat} {pre : List Ef} {R : (Nat → V) → Heap → Nat → Prop} {x y : Operand} {ty ty' : TypeId} {k : IntKind} {a b : Int}
end
end Go.V
namespace Go.V
open Go
open Go.RowKit (Below)
set_option linter.unusedVariables false
end Go.V
namespace Go.V
open Go
open Go.RowKit (Below)
set_option linter.unusedVariables false
def Ch (h g : Heap) : Prop := ∃ wr, g = app wr h
theorem Ch.refl (h : Heap) : Ch h h := ⟨[], rfl⟩
theorem Ch.upd {h g : Heap} {i : Nat} {b : Option Blk} (c : Ch h g) : Ch h (upd g i b) := by
  obtain ⟨wr, rfl⟩ := c
  exact ⟨wr ++ [(i, b)], by rw [O4]; rfl⟩
theorem Ch.app {h g : Heap} {wr : List (Nat × Option Blk)} (c : Ch h g) : Ch h (app wr g) := by
  obtain ⟨w0, rfl⟩ := c
  exact ⟨w0 ++ wr, by rw [O4]⟩
theorem Ch.trans {a b c : Heap} (x : Ch a b) (y : Ch b c) : Ch a c := by
  obtain ⟨w, rfl⟩ := y
  exact x.app
abbrev MV := V × List (Nat × Option Blk) × Nat
def OpenM (E : Env) (f : FuncId) (args : List V) (h : Heap) (n : Nat) (Φ : V → Heap → Nat → Prop) : Prop :=
  ∃ a : MV, Φ a.1 (app a.2.1 h) a.2.2 ∧ Open E f args h n a.1 a.2.1 a.2.2
def FinM (E : Env) (fn : Func) (h : Heap) (n0 : Nat) (Φ : V → Heap → Nat → Prop) (x : Ex) (t' : Nat → V) (h' : Heap) (n' : Nat) : Prop := ∃ a : MV, Φ a.1 (app a.2.1 h) a.2.2 ∧ OpenFin E fn a.1 h n0 a.2.1 a.2.2 x t' h' n'
theorem OpenM.of_wp {E : Env} {f : FuncId} {fn : Func} {k : Code} {args : List V} {h : Heap} {n : Nat} {Φ : V → Heap → Nat → Prop} (hf : E.P.funcs[f]? = some fn) (hb : fn.body = some k) (hn : args.length ≤ fn.ntmps)
    (w : WP E fn.ntmps k (fun i => (args[i]?).getD .unk) h n (FinM E fn h n Φ)) (hnm : (fn.name != "runtime.NumGoroutine") = true := by rfl) : OpenM E f args h n Φ :=
  Open.of_wpX (v := fun a : MV => a.1) (wr := fun a => a.2.1) (m := fun a => a.2.2) hf hb hn w hnm
theorem finM {E : Env} {fn : Func} {h h' : Heap} {n0 n' : Nat} {x : Ex} {t' : Nat → V} {xs : List V} {Φ : V → Heap → Nat → Prop} (hr : resL E.P t' h' fn.results.toList = some xs) (hc : Ch h h')
    (hΦ : Φ (retX xs) h' n') (hx : x = .norm ∨ x = .ret := by first | exact .inl rfl | exact .inr rfl) : FinM E fn h n0 Φ x t' h' n' := by
  obtain ⟨wr, rfl⟩ := hc
  exact ⟨(retX xs, wr, n'), hΦ, finO hr rfl (fun _ _ _ e => e) (Nat.le_refl _) hx⟩
attribute [irreducible] FinM
theorem OpenM.mono {E : Env} {f : FuncId} {args : List V} {h : Heap} {n : Nat} {Φ Ψ : V → Heap → Nat → Prop} (H : OpenM E f args h n Φ) (k : ∀ v g m, n ≤ m → Φ v g m → Ψ v g m) : OpenM E f args h n Ψ := by
  obtain ⟨a, h1, h2⟩ := H
  exact ⟨a, k _ _ _ h2.le h1, h2⟩
section rules
variable {E : Env} {sz : Nat} {ops : Array Oper} {o : Oper} {l : List Oper} {t : Nat → V} {h : Heap} {n : Nat} {R : (Nat → V) → Heap → Nat → Prop} {z : Operand}
end rules
end Go.V
namespace Go.V
open Go
open Go.RowKit (Below)
set_option linter.unusedVariables false
set_option linter.unusedSimpArgs false
section ops
variable {E : Env} {o : Oper} {t : Nat → V} {h : Heap} {n : Nat}
end ops
section
variable {E : Env} {sz : Nat} {t : Nat → V} {h : Heap} {n : Nat} {ops : Array Oper} {l : List Oper} {o : Oper} {bl : List Nat} {pre : List Ef} {R : (Nat → V) → Heap → Nat → Prop} {x y : Operand} {ty ty' : TypeId} {k : IntKind} {a b : Int}
end
end Go.V
namespace Go.V
open Go
open Go.RowKit (Below)
set_option linter.unusedVariables false
theorem CellsAt.take {c : Cx} {p : Place} {b : Blk} (h : CellsAt c p b) (k : Nat) : CellsAt c p ⟨b.es.take k, b.sz, b.ty⟩ := by
  obtain ⟨cells, fz, h2, h3, h4, h5, h6, h7, h8⟩ := h
  refine ⟨cells, fz, h2, h3, h4, h5, ?_, fun e he => h7 e (List.mem_of_mem_take he), fun i j x hx => ?_⟩
  · have : (b.es.take k).length * b.sz ≤ b.es.length * b.sz := Nat.mul_le_mul_right _ (by simp; omega)
    exact Nat.le_trans this h6
  · refine h8 i j x ?_
    unfold get2 at hx ⊢
    simp only at hx
    rw [List.getElem?_take] at hx
    split at hx
    · exact hx
    · cases hx
end Go.V
namespace Go.V
open Go
open Go.RowKit (Below)
set_option linter.unusedVariables false
def fl1 (x : V) : V := if x.flat then x else .unk
theorem VR.fl1 {c : Cx} {x : V} {v : Value} (h : VR c x v) : VR c (fl1 x) v := by
  unfold V.fl1
  split
  · exact h
  · exact .unk v
def flB (b : Blk) : Blk := ⟨b.es.map (·.map fl1), b.sz, b.ty⟩
theorem CellsAt.flB {c : Cx} {p : Place} {b : Blk} (h : CellsAt c p b) : CellsAt c p (flB b) := by
  obtain ⟨cells, fz, h2, h3, h4, h5, h6, h7, h8⟩ := h
  refine ⟨cells, fz, h2, h3, h4, h5, by simpa [V.flB] using h6, fun e he => ?_, fun i j x hx => ?_⟩
  · obtain ⟨e0, h0, rfl⟩ := List.mem_map.1 he
    rw [List.length_map]; exact h7 e0 h0
  · unfold get2 at hx
    simp only [V.flB, List.getElem?_map] at hx
    cases he : b.es[i]? with
    | none => simp [he] at hx
    | some e =>
      simp only [he, Option.map_some, Option.bind_some, List.getElem?_map] at hx
      cases hj : e[j]? with
      | none => simp [hj] at hx
      | some y =>
        simp only [hj, Option.map_some, Option.some.injEq] at hx
        subst hx
        obtain ⟨v, a1, a2, a3⟩ := h8 i j y (by simp [get2, he, hj])
        exact ⟨v, a1, a2.fl1, a3⟩
theorem MapAt.flB {c : Cx} {p : Place} {b : Blk} (h : MapAt c p b) : MapAt c p (flB b) := by
  obtain ⟨es, h1, h2, h3⟩ := h
  refine ⟨es, by simpa [V.flB] using h1, by simpa [V.flB] using h2, fun i row hr => ?_⟩
  simp only [V.flB, List.getElem?_map] at hr
  cases hb : b.es[i]? with
  | none => simp [hb] at hr
  | some e =>
    simp only [hb, Option.map_some, Option.some.injEq] at hr
    subst hr
    obtain ⟨en, k, x, a1, rfl, a3, a4, a5⟩ := h3 i e hb
    exact ⟨en, fl1 k, fl1 x, a1, rfl, a3, a4.fl1, a5.fl1⟩
end Go.V
namespace Go.V
open Go.RowKit (Below)
set_option linter.unusedSimpArgs false
set_option linter.unusedVariables false
def gotL : List V → (List V → Prop) → Prop
  | [], K => K []
  | .agg cs :: r, K => forceL cs fun cs => gotL r fun r => K (.agg cs :: r)
  | v :: r, K => force v fun v => gotL r fun r => K (v :: r)
theorem gotL_ok : ∀ {l : List V} {K : List V → Prop}, gotL l K → K l
  | [], _, h => h
  | v :: r, K, h => by
    cases v <;> exact gotL_ok (l := r) (by first | exact F5 (K := fun v => gotL r fun r => K (v :: r)) h | exact D9 (K := fun cs => gotL r fun r => K (.agg cs :: r)) h)
def gotR (v : V) (K : V → Prop) : Prop := match v with
  | .agg cs => forceL cs fun cs => K (.agg cs)
  | .tup vs => gotL vs fun vs => K (.tup vs)
  | v => force v K
theorem gotR_ok {v : V} {K : V → Prop} (h : gotR v K) : K v := by
  unfold gotR at h
  split at h
  · exact D9 (K := fun cs => K (.agg cs)) h
  · exact gotL_ok (K := fun vs => K (.tup vs)) h
  · exact F5 h
section rules
variable {E : Env} {t : Nat → V} {h : Heap} {n : Nat} {o : Oper} {K : EK} {x y z : Operand} {ty ty' : TypeId} {k : IntKind} {a b : Int} {p q : ByteArray} {v : V}
theorem Eff.got {rd : List Nat} (hop : OpOK E o t h n rd false v [] n) (w : gotR v fun v => K v rd false none n) : Eff E o t h n K := .one hop (gotR_ok (K := fun v => K v rd false none n) w)
theorem F4 {i j m c s : Nat} {e : TypeId} (G0 : o.op = .indexAddr ty x y ∧ E.eval t x = .ptr i j m ∧ E.eval t y = .int k a ∧ arrP E.P ty = some (c, e, s)) (h0 : 0 ≤ a) (h1 : a < c) (w : K (.ptr i j (m + a.toNat * s)) [] false none n) : Eff E o t h n K := have ⟨ho, hx, hy, hs⟩ := G0; .one (op_index_arr ho hx hy hs h0 h1) w
theorem eixAi {fr : Bool} {cs cs' : List T} {c s : Nat} {e : TypeId} (G0 : o.op = .indexAddr ty x y ∧ E.eval t x = .iptr fr cs ∧ E.eval t y = .int k a ∧ arrP E.P ty = some (c, e, s)) (h0 : 0 ≤ a) (h1 : a < c) (hv : cs.drop (a.toNat * s) = cs') (w : K (.iptr fr cs') [] false none n) : Eff E o t h n K := have ⟨ho, hx, hy, hs⟩ := G0; .one ((Z9 ho hx hy hs h0 h1).to (by rw [hv])) w
theorem eixg {cs : List V} {c s : Nat} {e : TypeId} {r : Bool} (G0 : o.op = .index ty x y ∧ E.eval t x = .agg cs ∧ E.eval t y = .int k a ∧ arrP E.P ty = some (c, e, s) ∧ rowP E.P e = some (r, s)) (h0 : 0 ≤ a) (h1 : a < c) (hv : partV cs (a.toNat * s) s r = some v) (hl : a.toNat * s + s ≤ cs.length) (w : K (v) [] false none n) : Eff E o t h n K := have ⟨ho, hx, hy, hs, hr⟩ := G0; .one (op_index_agg ho hx hy hs hr h0 h1 hv hl) w
theorem esll {lo hi : Option Operand} {fr nn : Bool} {es : List (List T)} {e : TypeId} {s : Nat} (G0 : o.op = .slice ty x lo hi none ∧ E.eval t x = .sl fr nn es ∧ sliceP E.P ty = some (e, s) ∧ bndV E t lo 0 = some a ∧ bndV E t hi es.length = some b) (h0 : 0 ≤ a) (h1 : a ≤ b) (h2 : b ≤ es.length) (hz : ∀ c ∈ es, c.length = s) (w : K (.sl fr nn ((es.drop a.toNat).take (b.toNat - a.toNat))) [] false none n) : Eff E o t h n K := have ⟨ho, hx, hs, hl, hr⟩ := G0; .one (op_slice_sl ho hx hs hl hr h0 h1 h2 hz) w
theorem eSeql {cs ds : List V} {c : Bool} (G0 : o.op = .binOp .eql ty x y ty' ∧ E.eval t x = .agg cs ∧ E.eval t y = .agg ds) (hgd : E.P.eqGuardType E.P.depth ty = false) (hr : eqV E.P 10000 ty (.agg cs) (.agg ds) = some c) (w1 : c = true → K (.bool true) [] false none n) (w2 : c = false → K (.bool false) [] false none n) : Eff E o t h n K := have ⟨ho, hx, hy⟩ := G0; .brB (c := c) ((op_structeq ho (by simp) hx hy hgd hr).to (by simp)) (V.brB w1 w2)
theorem D2 {i j m s : Nat} {B : Blk} {cs vs : List V} (G0 : o.op = .load ty x ∧ E.eval t x = .ptr i j m) (hb : h i = some B) (hi : B.es[j]? = some cs) (hr : rowP E.P ty = some (true, s)) (hl : m + s ≤ cs.length) (hv : (cs.drop m).take s = vs) (w : K (.agg vs) [i] false none n) : Eff E o t h n K := have ⟨ho, hx⟩ := G0; .one ((op_load_row ho hx hb hi hr hl).to (by rw [hv])) w
theorem D3 {m s : Nat} {ps : Array (Nat × Operand)} {zs : List V} {es : List (List V)} {e : TypeId} (G0 : o.op = .buildSlice ty m ps ∧ sliceP E.P ty = some (e, s) ∧ zeroV E.P e = some zs ∧ zs.length = s) (h0 : s ≠ 0) (hb : m * s ≤ 16777216) (hl : litV E t s (List.replicate m zs) ps.toList = some es) (hc : (es.all fun x => x.all V.cell) = true) (w : K (.view n 0 m) [] false (some [(n, some ⟨es, s, e⟩)]) (n + 1)) : Eff E o t h n K := have ⟨ho, hs, hz, hzs⟩ := G0; .two (op_buildSlice ho hs hz hzs h0 hb hl hc) (by omega) w
theorem eap {s s' i j m : Nat} {B : Blk} {es : List (List V)} {e : TypeId} (ho : o.op = .call { callee := .builtin .append, args := #[x, y], argTypes := #[ty, ty'] }) (hx : E.eval t x = .view i j m) (hb : h i = some B) (G0 : B.sz = s ∧ B.ty = e) (hfull : j + m = B.es.length) (G1 : elemP E.P ty = some (e, s, s') ∧ srcP E.P ty' = true) (h0 : s ≠ 0) (hy : srcV h (E.eval t y) = some es) (hyz : ∀ c ∈ es, c.length = s) (hbd : (m + es.length) * s' ≤ 140737488355328) (hl : m + es.length ≤ 9223372036854775807) (w : K (.view n 0 (m + es.length)) (i :: srcIds (E.eval t y)) false (some [(i, none), (n, some ⟨B.es.drop j ++ es, s, e⟩)]) (n + 1)) : Eff E o t h n K := have ⟨hbz, hbt⟩ := G0; have ⟨hs, htx⟩ := G1; .two (Z6 ho hx hb hbz hbt hfull hs htx h0 hy hyz hbd hl) (by omega) w
theorem ean {s s' : Nat} {es : List (List V)} {e : TypeId} (ho : o.op = .call { callee := .builtin .append, args := #[x, y], argTypes := #[ty, ty'] }) (G0 : E.eval t x = .nsl ∧ elemP E.P ty = some (e, s, s') ∧ srcP E.P ty' = true) (h0 : s ≠ 0) (hy : srcV h (E.eval t y) = some es) (hyz : ∀ c ∈ es, c.length = s) (hne : 0 < es.length) (hbd : es.length * s' ≤ 140737488355328) (hl : es.length ≤ 9223372036854775807) (w : K (.view n 0 es.length) (srcIds (E.eval t y)) false (some [(n, some ⟨es, s, e⟩)]) (n + 1)) : Eff E o t h n K := have ⟨hx, hs, htx⟩ := G0; .two (op_append_nil ho hx hs htx h0 hy hyz hne hbd hl) (by omega) w
theorem ebt {e : TypeId} (G0 : o.op = .convert ty ty' x ∧ E.eval t x = .str p ∧ (E.P.underlying ty).isSome = true ∧ E.P.underlying ty' = some (.slice e) ∧ E.P.underlying e = some (.int .u8)) (w : K (.view n 0 p.size) [] false (some [(n, some ⟨p.data.toList.map fun b => [.int .u8 b.toNat], 1, e⟩)]) (n + 1)) : Eff E o t h n K := have ⟨ho, hx, hsr, hds, he⟩ := G0; .two (op_bytes ho hx hsr hds he) (by omega) w
theorem emk {k' : IntKind} {m s s' : Nat} {zs : List V} {e : TypeId} (G0 : o.op = .makeSlice ty x y ∧ E.eval t x = .int k m ∧ E.eval t y = .int k' m ∧ elemP E.P ty = some (e, s, s') ∧ zeroV E.P e = some zs ∧ zs.all V.cell = true) (h0 : s ≠ 0) (hb : s' * m ≤ 281474976710656) (hl : m ≤ 9223372036854775807) (w : K (.view n 0 m) [] false (some [(n, some ⟨List.replicate m zs, s, e⟩)]) (n + 1)) : Eff E o t h n K := have ⟨ho, hx, hy, hs, hz, hc⟩ := G0; .two (op_make ho hx hy hs hz hc h0 hb hl) (by omega) w
theorem esg {e : TypeId} {es : List (List V)} {bs : List Int} (G0 : o.op = .convert ty ty' x ∧ E.P.underlying ty = some (.slice e) ∧ E.P.underlying e = some (.int .u8) ∧ E.P.underlying ty' = some .string) (hy : srcV h (E.eval t x) = some es) (hns : ∀ s, E.eval t x ≠ .str s) (hb : es = bs.map fun b => [.int .u8 b]) (w : K (.str (strOw bs)) (srcIds (E.eval t x)) false none n) : Eff E o t h n K := have ⟨ho, hsr, he, hds⟩ := G0; .one (op_string ho hsr he hds hy hns hb) w
theorem eslv {lo hi : Option Operand} {e : TypeId} {i j m s : Nat} {B : Blk} (G0 : o.op = .slice ty x lo hi none ∧ E.eval t x = .view i j m ∧ sliceP E.P ty = some (e, s)) (hb : h i = some B) (G1 : B.sz = s ∧ bndV E t lo 0 = some a ∧ bndV E t hi m = some b) (h0 : 0 ≤ a) (h1 : a ≤ b) (h2 : b ≤ m) (w : K (.view i (j + a.toNat) (b.toNat - a.toNat)) [i] false none n) : Eff E o t h n K := have ⟨ho, hx, hs⟩ := G0; have ⟨hbz, hl, hr⟩ := G1; .one (op_slice_view ho hx hs hb hbz hl hr h0 h1 h2) w
theorem est {i j m s : Nat} {B : Blk} {cs ys : List V} {r : Bool} {u : V} (G0 : o.op = .store ty x y ∧ E.eval t x = .ptr i j m ∧ E.eval t y = u) (hb : h i = some B) (hi : B.es[j]? = some cs) (G1 : rowP E.P ty = some (r, s) ∧ u.known = true ∧ u.cells.length = s ∧ u.cells.all V.cell = true) (hl : m + s ≤ cs.length) (hs : splice cs m u.cells = ys) (w : K .unk [i] false (some [(i, some { B with es := B.es.set j ys })]) n) : Eff E o t h n K := have ⟨ho, hx, hy⟩ := G0; have ⟨hr, hk, hkl, hc⟩ := G1; .two (op_st ho hx hy hb hi hr hk hkl hc hl hs) (Nat.le_refl _) w
theorem C8 {tys : Array TypeId} {f : FuncId} {args : Array Operand} {az rs : List A} (hpure : Pure E f az rs) (ho : o.op = .call { callee := .value z, args := args, argTypes := tys }) (hc : E.eval t z = .clo f []) (hs : dataL false (args.toList.map (E.eval t)) = some az) (w : gotR (retV true rs) fun v => K v [] false none n) : Eff E o t h n K := .got (op_callD ho hc hs hpure) w
theorem T3 {tys : Array TypeId} {f : FuncId} {args : Array Operand} {az rs : List A} {vs : List V} (ids : List Nat) (hpure : Pure E f az rs) (ho : o.op = .call { callee := .value z, args := args, argTypes := tys }) (hc : E.eval t z = .clo f []) (hv : args.toList.map (E.eval t) = vs) (hs : SnapL h ids false vs az) (w : gotR (retV true rs) fun v => K v ids false none n) : Eff E o t h n K := .got (op_callS ho hc hv hs hpure) w
theorem eclSP {tys : Array TypeId} {f : FuncId} {args : Array Operand} {az : List A} {vs : List V} {c : Prop} [Decidable c] (ids : List Nat) (hpure : Pure E f az [.one (.bool (decide c))]) (ho : o.op = .call { callee := .value z, args := args, argTypes := tys }) (G0 : E.eval t z = .clo f [] ∧ args.toList.map (E.eval t) = vs) (hs : SnapL h ids false vs az) (w1 : c → K (.bool true) ids false none n) (w2 : ¬ c → K (.bool false) ids false none n) : Eff E o t h n K := have ⟨hc, hv⟩ := G0; .br (op_callS ho hc hv hs hpure) (V.br w1 w2)
theorem B6 {tys : Array TypeId} {f : FuncId} {args : Array Operand} {az : List A} {c : Prop} [Decidable c] (hpure : Pure E f az [.one (.bool (decide c))]) (ho : o.op = .call { callee := .value z, args := args, argTypes := tys }) (G0 : E.eval t z = .clo f [] ∧ dataL false (args.toList.map (E.eval t)) = some az) (w1 : c → K (.bool true) [] false none n) (w2 : ¬ c → K (.bool false) [] false none n) : Eff E o t h n K := have ⟨hc, hs⟩ := G0; .br (op_callD ho hc hs hpure) (V.br w1 w2)
theorem N3 {tys : Array TypeId} {f : FuncId} {args : Array Operand} {caps vs : List V} {wr : List (Nat × Option Blk)} {n1 : Nat} (hop : Open E f vs h n v wr n1) (ho : o.op = .call { callee := .value z, args := args, argTypes := tys }) (hc : E.eval t z = .clo f caps) (hv : args.toList.map (E.eval t) ++ caps = vs) (w : gotR v fun v => K v [] true (some wr) n1) : Eff E o t h n K := .tot (op_open ho hc (by rw [hv]; exact hop)) hop.le (gotR_ok (K := fun v => K v [] true (some wr) n1) w)
theorem eopB {tys : Array TypeId} {f : FuncId} {args : Array Operand} {caps vs : List V} {wr : List (Nat × Option Blk)} {n1 : Nat} {c : Bool} (hop : Open E f vs h n (.bool c) wr n1) (ho : o.op = .call { callee := .value z, args := args, argTypes := tys }) (G0 : E.eval t z = .clo f caps ∧ args.toList.map (E.eval t) ++ caps = vs) (w1 : c = true → K (.bool true) [] true (some wr) n1) (w2 : c = false → K (.bool false) [] true (some wr) n1) : Eff E o t h n K := by
  obtain ⟨hc, hv⟩ := G0
  cases hc2 : c
  · rw [hc2] at hop; exact .tot (op_open ho hc (by rw [hv]; exact hop)) hop.le (w2 hc2)
  · rw [hc2] at hop; exact .tot (op_open ho hc (by rw [hv]; exact hop)) hop.le (w1 hc2)
theorem eclX {α : Type} {p : α → Prop} {rs : α → List A} {tys : Array TypeId} {f : FuncId} {args : Array Operand} {az : List A} (hpure : ∃ a, p a ∧ Pure E f az (rs a)) (ho : o.op = .call { callee := .value z, args := args, argTypes := tys }) (G0 : E.eval t z = .clo f [] ∧ dataL false (args.toList.map (E.eval t)) = some az) (w : ∀ a, p a → gotR (retV true (rs a)) fun v => K v [] false none n) : Eff E o t h n K := by
  obtain ⟨hc, hs⟩ := G0
  obtain ⟨a, h1, h2⟩ := hpure
  exact C8 h2 ho hc hs (w a h1)
theorem eclSX {α : Type} {p : α → Prop} {rs : α → List A} {tys : Array TypeId} {f : FuncId} {args : Array Operand} {az : List A} {vs : List V} (ids : List Nat) (hpure : ∃ a, p a ∧ Pure E f az (rs a)) (ho : o.op = .call { callee := .value z, args := args, argTypes := tys }) (G0 : E.eval t z = .clo f [] ∧ args.toList.map (E.eval t) = vs) (hs : SnapL h ids false vs az) (w : ∀ a, p a → gotR (retV true (rs a)) fun v => K v ids false none n) : Eff E o t h n K := by
  obtain ⟨hc, hv⟩ := G0
  obtain ⟨a, h1, h2⟩ := hpure
  exact T3 ids h2 ho hc hv hs (w a h1)
theorem K6 {α : Type} {p : α → Prop}  {tys : Array TypeId} {f : FuncId} {args : Array Operand} {caps vs : List V} {v : α → V} {wr : α → List (Nat × Option Blk)} {n1 : α → Nat} (hop : ∃ a, p a ∧ Open E f vs h n (v a) (wr a) (n1 a)) (ho : o.op = .call { callee := .value z, args := args, argTypes := tys }) (G0 : E.eval t z = .clo f caps ∧ args.toList.map (E.eval t) ++ caps = vs) (w : ∀ a, p a → gotR (v a) fun v => K v [] true (some (wr a)) (n1 a)) : Eff E o t h n K := by
  obtain ⟨hc, hv⟩ := G0
  obtain ⟨a, h1, h2⟩ := hop
  exact N3 h2 ho hc hv (w a h1)
theorem e0 {rd : List Nat} (hop : OpOK E o t h n rd false v [] n) (w : K v rd false none n) : Eff E o t h n K := .one hop w
theorem efs {tys : Array TypeId} {f : FuncId} {args : Array Operand} {vs : List V} {wr : List (Nat × Option Blk)} {n1 : Nat} (ids : List Nat) {az : List A} (hop : Open E f (az.map (A.toV false)) (fun _ => none) n v wr n1) (ho : o.op = .call { callee := .value z, args := args, argTypes := tys }) (G0 : E.eval t z = .clo f [] ∧ args.toList.map (E.eval t) = vs) (hs : SnapL h ids false vs az)
    (hfl : v.flat3 = true) (hwf : ∀ id b, app wr (fun _ => none) id = some b → ∀ e ∈ b.es, ∀ x ∈ e, x.flat = true) (hne : wr ≠ []) (w : K (v) ids false (some wr) (n1)) : Eff E o t h n K := have ⟨hc, hv⟩ := G0; .wr (op_freshS ho hc hv hs hop hfl hwf) hop.le hne w
section
variable {e : TypeId}
theorem emk8 {i j m : Nat} {B : Blk} (G0 : o.op = .convert ty ty x ∧ E.eval t x = .view i j m) (hb : h i = some B) (hu : E.P.underlying ty = some (.slice e)) (he : E.P.underlying e = some (.int .u8) ∧ B.sz = 1) (w : K (.view i j m) [i] false (some [(i, some B)]) (n)) : Eff E o t h n K := have ⟨ho, hx⟩ := G0; .two (op_mark ho hx hb hu he) (by omega) w
end
end rules
def FinME (E : Env) (fn : Func) (h : Heap) (n0 : Nat) (Φ : V → Heap → Nat → Prop) : Post := FinM E fn h n0 Φ
theorem OpenM.of_ev {E : Env} {f : FuncId} {fn : Func} {k : Code} {args : List V} {h : Heap} {n : Nat} {Φ : V → Heap → Nat → Prop} {st : List Nat} (hf : E.P.funcs[f]? = some fn) (hb : fn.body = some k) (hn : args.length ≤ fn.ntmps)
    (w : evC E fn.ntmps st k (argV args) h n (FinME E fn h n Φ)) (hk : codeOK E fn.ntmps k = true := by decide +kernel) (hnm : (fn.name != "runtime.NumGoroutine") = true := by rfl) : OpenM E f args h n Φ :=
  OpenM.of_wp hf hb hn (T2 hk w) hnm
theorem fiM {E : Env} {fn : Func} {h h' : Heap} {n0 n' : Nat} {x : Ex} {t' : Nat → V} {xs : List V} {Φ : V → Heap → Nat → Prop} (hr : resL E.P t' h' fn.results.toList = some xs) (hc : Ch h h')
    (hΦ : Φ (retX xs) h' n') (hx : x = .norm ∨ x = .ret := by first | exact .inl rfl | exact .inr rfl) : FinME E fn h n0 Φ x t' h' n' := finM hr hc hΦ hx
attribute [irreducible] FinME
end Go.V
