import Derived.Test.YteifdelnahccjaaGreatDoorE9
namespace Go.Proofs.YteifdelnahccjaaGreatDoor
open Go Go.V
set_option linter.unusedVariables false
set_option linter.unusedSimpArgs false
set_option maxRecDepth 20000
inductive Kd where
 | flat
 | sl (ty : TypeId) (ks : List Kd)
mutual
inductive Own (h : Heap) : Kd → List Nat → V → T → Prop
 | bool (b : Bool) : Own h .flat [] (.bool b) (.bool b)
 | int (k : IntKind) (n : Int) : Own h .flat [] (.int k n) (.int k n)
 | str (s : ByteArray) : Own h .flat [] (.str s) (.str s)
 | nil (ty : TypeId) (ks : List Kd) : Own h (.sl ty ks) [] .nsl (.sl false [])
 | view (ty : TypeId) (ks : List Kd) (id len : Nat) (R : List (List V)) (S : List Nat) (es : List (List T)) (hb : h id = some ⟨R, ks.length, ty⟩) (hl : es.length = len) (hle : len ≤ R.length) (hr : OwnRs h ks S (R.take len) es) : Own h (.sl ty ks) (id :: S) (.view id 0 len) (.sl false es)
inductive OwnRs (h : Heap) : List Kd → List Nat → List (List V) → List (List T) → Prop
 | nil (ks : List Kd) : OwnRs h ks [] [] []
 | cons (ks : List Kd) (S1 S2 : List Nat) (r : List V) (e : List T) (rs : List (List V)) (es : List (List T)) (h1 : OwnR h ks S1 r e) (h2 : OwnRs h ks S2 rs es) : OwnRs h ks (S1 ++ S2) (r :: rs) (e :: es)
inductive OwnR (h : Heap) : List Kd → List Nat → List V → List T → Prop
 | nil : OwnR h [] [] [] []
 | cons (k : Kd) (ks : List Kd) (S1 S2 : List Nat) (x : V) (y : T) (xs : List V) (ys : List T) (h1 : Own h k S1 x y) (h2 : OwnR h ks S2 xs ys) : OwnR h (k :: ks) (S1 ++ S2) (x :: xs) (y :: ys)
end
mutual
theorem Own.congr {h h' : Heap} : ∀ {k : Kd} {S : List Nat} {v : V} {t : T}, Own h k S v t → (∀ id ∈ S, h' id = h id) → Own h' k S v t
 | _, _, _, _, .bool b, _ => .bool b
 | _, _, _, _, .int k n, _ => .int k n
 | _, _, _, _, .str s, _ => .str s
 | _, _, _, _, .nil ty ks, _ => .nil ty ks
 | _, _, _, _, .view ty ks id len R S es hb hl hle hr, e => .view ty ks id len R S es ((e id List.mem_cons_self).trans hb) hl hle (hr.congr fun i hi => e i (List.mem_cons_of_mem _ hi))
theorem OwnRs.congr {h h' : Heap} : ∀ {ks : List Kd} {S : List Nat} {rs : List (List V)} {es : List (List T)}, OwnRs h ks S rs es → (∀ id ∈ S, h' id = h id) → OwnRs h' ks S rs es
 | _, _, _, _, .nil ks, _ => .nil ks
 | _, _, _, _, .cons ks S1 S2 r e rs es h1 h2, k => .cons ks S1 S2 r e rs es (h1.congr fun i hi => k i (List.mem_append_left _ hi)) (h2.congr fun i hi => k i (List.mem_append_right _ hi))
theorem OwnR.congr {h h' : Heap} : ∀ {ks : List Kd} {S : List Nat} {xs : List V} {ys : List T}, OwnR h ks S xs ys → (∀ id ∈ S, h' id = h id) → OwnR h' ks S xs ys
 | _, _, _, _, .nil, _ => .nil
 | _, _, _, _, .cons q ks S1 S2 x y xs ys h1 h2, k => .cons q ks S1 S2 x y xs ys (h1.congr fun i hi => k i (List.mem_append_left _ hi)) (h2.congr fun i hi => k i (List.mem_append_right _ hi))
end
mutual
theorem Own.snap {h : Heap} {ids : List Nat} {q : Bool} : ∀ {k : Kd} {S : List Nat} {v : V} {t : T}, Own h k S v t → (∀ id ∈ S, id ∈ ids) → Snap h ids q v t
 | _, _, _, _, .bool b, _ => .bool b
 | _, _, _, _, .int k n, _ => .int k n
 | _, _, _, _, .str s, _ => .str s
 | _, _, _, _, .nil _ _, _ => .nslW
 | _, _, _, _, .view ty ks id len R S es hb hl hle hr, e => by
  obtain ⟨h1, h2⟩ := hr.snap (ids := ids) (q := q) fun i hi => e i (List.mem_cons_of_mem _ hi)
  refine .weak _ _ (.view id 0 len _ es (e id List.mem_cons_self) hb (by simp only [Nat.zero_add]; exact hle) hl (fun i r k hr' hk => ?_) (fun i j x y hx hy => ?_))
  ·rw [List.drop_zero] at hr'
   exact (h2 i r k hr' hk).1
  ·rw [List.drop_zero] at hx
   unfold get2 at hx hy
   cases e1 : (R.take len)[i]? with
   | none => rw [show (Blk.mk R ks.length ty).es = R from rfl, e1] at hx; cases hx
   | some r =>
    cases e2 : es[i]? with
    | none => rw [e2] at hy; cases hy
    | some k =>
     rw [show (Blk.mk R ks.length ty).es = R from rfl, e1] at hx; rw [e2] at hy
     exact (h2 i r k e1 e2).2 j x y hx hy
theorem OwnRs.snap {h : Heap} {ids : List Nat} {q : Bool} : ∀ {ks : List Kd} {S : List Nat} {rs : List (List V)} {es : List (List T)}, OwnRs h ks S rs es → (∀ id ∈ S, id ∈ ids) →
  rs.length = es.length ∧ ∀ (i : Nat) (r : List V) (k : List T), rs[i]? = some r → es[i]? = some k → r.length = k.length ∧ ∀ (j : Nat) (x : V) (y : T), r[j]? = some x → k[j]? = some y → Snap h ids q x y
 | _, _, _, _, .nil _, _ => ⟨rfl, fun i r k hr => by simp at hr⟩
 | _, _, _, _, .cons ks S1 S2 r e rs es h1 h2, k => by
  have a := h1.snap (ids := ids) (q := q) fun i hi => k i (List.mem_append_left _ hi)
  obtain ⟨b1, b2⟩ := h2.snap (ids := ids) (q := q) fun i hi => k i (List.mem_append_right _ hi)
  refine ⟨by simp [b1], fun i r' k' hr hk => ?_⟩
  cases i with
  | zero =>
   simp only [List.getElem?_cons_zero, Option.some.injEq] at hr hk
   subst hr; subst hk; exact a
  | succ i => exact b2 i r' k' (by simpa using hr) (by simpa using hk)
theorem OwnR.snap {h : Heap} {ids : List Nat} {q : Bool} : ∀ {ks : List Kd} {S : List Nat} {xs : List V} {ys : List T}, OwnR h ks S xs ys → (∀ id ∈ S, id ∈ ids) →
  xs.length = ys.length ∧ ∀ (j : Nat) (x : V) (y : T), xs[j]? = some x → ys[j]? = some y → Snap h ids q x y
 | _, _, _, _, .nil, _ => ⟨rfl, fun j x y hx => by simp at hx⟩
 | _, _, _, _, .cons _ ks S1 S2 x y xs ys h1 h2, k => by
  have a := h1.snap (ids := ids) (q := q) fun i hi => k i (List.mem_append_left _ hi)
  obtain ⟨b1, b2⟩ := h2.snap (ids := ids) (q := q) fun i hi => k i (List.mem_append_right _ hi)
  refine ⟨by simp [b1], fun j u v hu hv => ?_⟩
  cases j with
  | zero =>
   simp only [List.getElem?_cons_zero, Option.some.injEq] at hu hv
   subst hu; subst hv; exact a
  | succ j => exact b2 j u v (by simpa using hu) (by simpa using hv)
end
theorem OwnRs.len {h : Heap} {ks : List Kd} {S : List Nat} {rs : List (List V)} {es : List (List T)} (o : OwnRs h ks S rs es) : rs.length = es.length := (o.snap (ids := S) (q := false) fun _ hi => hi).1
theorem OwnR.len {h : Heap} {ks : List Kd} {S : List Nat} {xs : List V} {ys : List T} (o : OwnR h ks S xs ys) : xs.length = ys.length := (o.snap (ids := S) (q := false) fun _ hi => hi).1
theorem OwnR.snapC {h : Heap} {ids : List Nat} {q : Bool} : ∀ {ks : List Kd} {S : List Nat} {xs : List V} {ys : List T}, OwnR h ks S xs ys → (∀ id ∈ S, id ∈ ids) → SnapC h ids q xs ys
 | _, _, _, _, .nil, _ => .nil
 | _, _, _, _, .cons _ _ S1 S2 x y xs ys h1 h2, k => .cons x y xs ys (h1.snap fun i hi => k i (List.mem_append_left _ hi)) (h2.snapC fun i hi => k i (List.mem_append_right _ hi))
theorem OwnRs.focus {h : Heap} : ∀ {ks : List Kd} {S : List Nat} {rs : List (List V)} {es : List (List T)}, OwnRs h ks S rs es → ∀ (i : Nat), i < rs.length →
  ∃ S1 Si S2, S = S1 ++ (Si ++ S2) ∧ OwnR h ks Si (rs.getD i []) (es.getD i []) ∧
   ∀ (h' : Heap) (Si' : List Nat) (r' : List V) (e' : List T), (∀ id, id ∈ S1 ∨ id ∈ S2 → h' id = h id) → OwnR h' ks Si' r' e' → OwnRs h' ks (S1 ++ (Si' ++ S2)) (rs.set i r') (es.set i e')
 | _, _, _, _, .nil _, i, hi => absurd hi (Nat.not_lt_zero i)
 | _, _, _, _, .cons ks S1 S2 r e rs es h1 h2, 0, _ => ⟨[], S1, S2, rfl, h1, fun h' Si' r' e' k q => .cons ks Si' S2 r' e' rs es q (h2.congr fun i hi => k i (.inr hi))⟩
 | _, _, _, _, .cons ks S1 S2 r e rs es h1 h2, i + 1, hi => by
  obtain ⟨A, B, C, e1, e2, e3⟩ := h2.focus i (Nat.lt_of_succ_lt_succ hi)
  refine ⟨S1 ++ A, B, C, by rw [e1, List.append_assoc], by simpa using e2, fun h' Si' r' e' k q => ?_⟩
  rw [List.append_assoc]
  exact .cons ks S1 _ r e _ _ (h1.congr fun i hi => k i (.inl (List.mem_append_left _ hi))) (e3 h' Si' r' e' (fun i hi => k i (hi.imp (fun x => List.mem_append_right _ x) (fun x => x))) q)
theorem Own.at {α : Type} {f : α → List T} (d : α) {h : Heap} {ty : TypeId} {ks : List Kd} {S : List Nat} {id len : Nat} {L : List α} (o : Own h (.sl ty ks) S (.view id 0 len) (.sl false (L.map f))) {i : Nat} (hi : i < L.length) :
  ∃ R S1 Si S2 r, h id = some ⟨R, ks.length, ty⟩ ∧ S = id :: (S1 ++ (Si ++ S2)) ∧ len ≤ R.length ∧ R[i]? = some r ∧ OwnR h ks Si r (f (L.getD i d)) ∧
   ∀ (h' : Heap) (Si' : List Nat) (r' : List V) (a' : α), h' id = some ⟨R.set i r', ks.length, ty⟩ → (∀ j, j ∈ S1 ∨ j ∈ S2 → h' j = h j) → OwnR h' ks Si' r' (f a') →
    Own h' (.sl ty ks) (id :: (S1 ++ (Si' ++ S2))) (.view id 0 len) (.sl false ((L.set i a').map f)) := by
 cases o with
 | view _ _ _ _ R S es hb hl hle hr =>
  rw [List.length_map] at hl
  have hlt : i < (R.take len).length := by rw [List.length_take]; omega
  obtain ⟨S1, Si, S2, e1, e2, e3⟩ := hr.focus i hlt
  have g1 : (R.take len).getD i [] = R[i]'(by omega) := by simp [List.getElem?_take, show i < len by omega, show i < R.length by omega]
  have g2 : (L.map f).getD i [] = f (L.getD i d) := by simp [hi]
  rw [g1, g2] at e2
  refine ⟨R, S1, Si, S2, _, hb, by rw [e1], hle, by simp [show i < R.length by omega], e2, fun h' Si' r' a' q1 q3 q4 => ?_⟩
  refine .view ty ks id len _ _ _ q1 (by simp [hl]) (by rw [List.length_set]; exact hle) ?_
  rw [List.map_set, List.take_set]
  exact e3 h' Si' r' (f a') q3 q4
theorem Own.len0 {h : Heap} {ty : TypeId} {ks : List Kd} {S : List Nat} {v : V} {es : List (List T)} (o : Own h (.sl ty ks) S v (.sl false es)) : (v = .nsl ∧ S = [] ∧ es = []) ∨ ∃ id R B, v = .view id 0 es.length ∧ S = id :: B ∧ h id = some ⟨R, ks.length, ty⟩ ∧ es.length ≤ R.length := by
 cases o with
 | nil => exact .inl ⟨rfl, rfl, rfl⟩
 | view _ _ id len R B es hb hl hle hr => subst hl; exact .inr ⟨id, R, B, rfl, rfl, hb, hle⟩
def slv : V → Bool
 | .nsl => true
 | .view _ _ _ => true
 | _ => false
theorem Own.slv {h : Heap} {ty : TypeId} {ks : List Kd} {S : List Nat} {v : V} {t : T} (o : Own h (.sl ty ks) S v t) : slv v = true := by cases o <;> rfl
theorem AI {v : V} {F : V → Prop} (hs : slv v = true) (h : F v) : got v F := by cases v <;> first | exact h | cases hs
theorem forceI {v : V} {F : V → Prop} (h : F v) : force v F := by cases v <;> exact h
theorem forceLI : ∀ {l : List V} {F : List V → Prop}, F l → forceL l F
 | [], _, h => h
 | v :: r, F, h => forceI (F := fun v => forceL r fun r => F (v :: r)) (forceLI (l := r) (F := fun r => F (v :: r)) h)
theorem gotRA {c : List V} {F : V → Prop} (h : F (.agg c)) : gotR (.agg c) F := forceLI (F := fun cs => F (.agg cs)) h
theorem OwnR.cons_inv {h : Heap} {k : Kd} {ks : List Kd} {S : List Nat} {r : List V} {y : T} {ys : List T} (o : OwnR h (k :: ks) S r (y :: ys)) : ∃ S1 S2 x xs, r = x :: xs ∧ S = S1 ++ S2 ∧ Own h k S1 x y ∧ OwnR h ks S2 xs ys := by
 cases o with
 | cons _ _ S1 S2 x _ xs _ h1 h2 => exact ⟨S1, S2, x, xs, rfl, rfl, h1, h2⟩
theorem OwnR.flat_inv {h : Heap} {ks : List Kd} {S : List Nat} {r : List V} {y : T} {ys : List T} (o : OwnR h (.flat :: ks) S r (y :: ys)) : ∃ xs, r = y.toV false :: xs ∧ OwnR h ks S xs ys := by
 cases o with
 | cons _ _ S1 S2 x _ xs _ h1 h2 => cases h1 <;> exact ⟨xs, rfl, h2⟩
theorem OwnR.nil_inv {h : Heap} {S : List Nat} {r : List V} (o : OwnR h [] S r []) : r = [] ∧ S = [] := by cases o; exact ⟨rfl, rfl⟩
theorem OwnR.int {h : Heap} {ks : List Kd} {S : List Nat} {k : IntKind} {n : Int} {xs : List V} {ys : List T} (o : OwnR h ks S xs ys) : OwnR h (.flat :: ks) S (.int k n :: xs) (.int k n :: ys) := .cons _ _ [] S _ _ _ _ (.int k n) o
theorem OwnR.bool {h : Heap} {ks : List Kd} {S : List Nat} {b : Bool} {xs : List V} {ys : List T} (o : OwnR h ks S xs ys) : OwnR h (.flat :: ks) S (.bool b :: xs) (.bool b :: ys) := .cons _ _ [] S _ _ _ _ (.bool b) o
theorem OwnR.str {h : Heap} {ks : List Kd} {S : List Nat} {s : ByteArray} {xs : List V} {ys : List T} (o : OwnR h ks S xs ys) : OwnR h (.flat :: ks) S (.str s :: xs) (.str s :: ys) := .cons _ _ [] S _ _ _ _ (.str s) o
theorem OwnR.nsl {h : Heap} {ty : TypeId} {k0 ks : List Kd} {S : List Nat} {xs : List V} {ys : List T} (o : OwnR h ks S xs ys) : OwnR h (.sl ty k0 :: ks) S (.nsl :: xs) (.sl false [] :: ys) := .cons _ _ [] S _ _ _ _ (.nil ty k0) o
theorem OwnRs.rep {h : Heap} {ks : List Kd} {r : List V} {e : List T} (o : OwnR h ks [] r e) : ∀ n, OwnRs h ks [] (List.replicate n r) (List.replicate n e)
 | 0 => .nil ks
 | n + 1 => .cons ks [] [] r e _ _ o (OwnRs.rep o n)
theorem Own.zeros {α : Type} {f : α → List T} {d : α} {h : Heap} {ty : TypeId} {ks : List Kd} {id n : Nat} {r : List V} (o : OwnR h ks [] r (f d)) (hb : h id = some ⟨List.replicate n r, ks.length, ty⟩) : Own h (.sl ty ks) [id] (.view id 0 n) (.sl false ((List.replicate n d).map f)) :=
 .view ty ks id n _ [] _ hb (by simp) (by simp) (by rw [List.take_of_length_le (by simp), List.map_replicate]; exact OwnRs.rep o n)
theorem E9 {E : Env} {o : Oper} {t : Nat → V} {h : Heap} {n : Nat} {K : EK} {z : Operand} {tys : Array TypeId} {f : FuncId} {args : Array Operand} {caps vs : List V} {Φ : V → Heap → Nat → Prop} (hop : OpenM E f vs h n Φ) (ho : o.op = .call { callee := .value z, args := args, argTypes := tys }) (G0 : E.eval t z = .clo f caps ∧ args.toList.map (E.eval t) ++ caps = vs)
  (w : ∀ (v : V) (wr : List (Nat × Option Blk)) (m : Nat), Φ v (app wr h) m → n ≤ m → gotR v fun v => K v [] true (some wr) m) : Eff E o t h n K := by
 obtain ⟨hc, hv⟩ := G0
 obtain ⟨a, h1, h2⟩ := hop
 exact O3 h2 ho hc hv (w a.1 a.2.1 a.2.2 h1 h2.le)
def ctL {α : Type} (ct : α → Nat) : List α → Nat
 | [] => 0
 | a :: L => ct a + ctL ct L
def mkL {α : Type} (mk : Int → α → α) (ct : α → Nat) : Int → List α → List α
 | _, [] => []
 | k, a :: L => mk k a :: mkL mk ct (k + (ct a : Int)) L
theorem K4 {α : Type} {mk : Int → α → α} {ct : α → Nat} : ∀ (L : List α) (k : Int), (mkL mk ct k L).length = L.length
 | [], _ => rfl
 | a :: L, k => by simp [mkL, K4 L]
theorem K5 {α : Type} {mk : Int → α → α} {ct : α → Nat} (d : α) : ∀ (L : List α) (k : Int) (i : Nat), i < L.length → (mkL mk ct k L).getD i d = mk (k + (ctL ct (L.take i) : Int)) (L.getD i d)
 | [], _, _, h => absurd h (Nat.not_lt_zero _)
 | a :: L, k, 0, _ => by simp [mkL, ctL]
 | a :: L, k, i + 1, h => by
  have := K5 (mk := mk) (ct := ct) d L (k + (ct a : Int)) i (Nat.lt_of_succ_lt_succ h)
  simp only [mkL, List.getD_cons_succ, List.take_succ_cons, ctL]
  rw [this]; congr 1; omega
theorem E3 {α : Type} {ct : α → Nat} (d : α) : ∀ (L : List α) (i : Nat), i < L.length → ctL ct (L.take (i + 1)) = ctL ct (L.take i) + ct (L.getD i d)
 | [], _, h => absurd h (Nat.not_lt_zero _)
 | a :: L, 0, _ => by simp [ctL]
 | a :: L, i + 1, h => by
  have := E3 (ct := ct) d L i (Nat.lt_of_succ_lt_succ h)
  simp only [List.take_succ_cons, ctL, List.getD_cons_succ]; omega
theorem G4 {α : Type} {ct : α → Nat} : ∀ (L : List α) (i : Nat), ctL ct (L.take i) ≤ ctL ct L
 | [], i => by simp [ctL]
 | a :: L, 0 => by simp [ctL]
 | a :: L, i + 1 => by
  have := G4 (ct := ct) L i
  simp only [List.take_succ_cons, ctL]; omega
theorem D0 {α : Type} {ct : α → Nat} (L : List α) : ctL ct (L.take L.length) = ctL ct L := by rw [List.take_length]
def mb (k : Int) : Bool := decide (k.tmod 3 = 0)
theorem mb_t {k : Int} (h : k.tmod 3 = 0) : mb k = true := decide_eq_true h
theorem mb_f {k : Int} (h : ¬ k.tmod 3 = 0) : mb k = false := decide_eq_false h
theorem E8 {α : Type} (d : α) {A L : List α} {i : Nat} (h : A.length = L.length) (hi : i < L.length) : (mix A L i).set i (A.getD i d) = mix A L (i + 1) := by
 have e1 : (A.take i).length = i := by simp; omega
 have e2 : L.drop i = L.getD i d :: L.drop (i + 1) := by
  rw [List.getD_eq_getElem?_getD, List.getElem?_eq_getElem hi, Option.getD_some, List.drop_eq_getElem_cons hi]
 have e3 : A.take (i + 1) = A.take i ++ [A.getD i d] := by
  rw [List.take_add_one]; simp [show i < A.length by omega]
 unfold mix
 rw [e2, List.set_append_right _ _ (by omega), e1, Nat.sub_self, e3, List.set_cons_zero, List.append_assoc]
 rfl
theorem J5 {α : Type} (d : α) {A L : List α} {i : Nat} (h : A.length = L.length) (hi : i < L.length) : (mix A L i).getD i d = L.getD i d := by
 have e1 : (A.take i).length = i := by simp; omega
 unfold mix
 rw [List.getD_eq_getElem?_getD, List.getElem?_append_right (by omega), e1, Nat.sub_self, List.getElem?_drop, Nat.add_zero, List.getD_eq_getElem?_getD]
theorem K6 {α : Type} {ct : α → Nat} (h : ∀ a, 1 ≤ ct a) : ∀ L : List α, L.length ≤ ctL ct L
 | [] => Nat.le_refl _
 | a :: L => by have := K6 h L; have := h a; simp only [List.length_cons, ctL]; omega
theorem V6 {α : Type} {ct : α → Nat} {c : Nat} (h : ∀ a, ct a = c) : ∀ L : List α, ctL ct L = c * L.length
 | [] => rfl
 | a :: L => by simp only [ctL, List.length_cons]; rw [h, V6 h L, Nat.mul_succ]; omega
theorem F3 {S A B : List Nat} {j : Nat} (h : S.Nodup) (hA : j ∈ A) (hB : j ∈ B) (hc : A.count j + B.count j ≤ S.count j) : False := by
 have a1 := List.nodup_iff_count.1 h j
 have a2 := List.count_pos_iff.2 hA
 have a3 := List.count_pos_iff.2 hB
 omega
theorem ndp {S A : List Nat} (h : S.Nodup) (hc : ∀ j, A.count j ≤ S.count j) : A.Nodup := List.nodup_iff_count.2 fun j => Nat.le_trans (hc j) (List.nodup_iff_count.1 h j)
theorem ndApp {A B : List Nat} {b : Nat} (h1 : A.Nodup) (h2 : B.Nodup) (r1 : ∀ j ∈ A, j < b) (r2 : ∀ j ∈ B, b ≤ j) : (A ++ B).Nodup := List.nodup_append.2 ⟨h1, h2, fun a ha c hc e => by have := r1 a ha; have := r2 c hc; omega⟩
theorem OwnR.boolE {h : Heap} {ks : List Kd} {S : List Nat} {b c : Bool} {xs : List V} {ys : List T} (e : c = b) (o : OwnR h ks S xs ys) : OwnR h (.flat :: ks) S (.bool b :: xs) (.bool c :: ys) := by subst e; exact .bool o
theorem Own.cell {h : Heap} {k : Kd} {S : List Nat} {x : V} {y : T} (o : Own h k S x y) : x.cell = true := by cases o <;> rfl
theorem OwnR.cell {h : Heap} : ∀ {ks : List Kd} {S : List Nat} {xs : List V} {ys : List T}, OwnR h ks S xs ys → xs.all V.cell = true
 | _, _, _, _, .nil => rfl
 | _, _, _, _, .cons _ _ _ _ x _ xs _ h1 h2 => by rw [List.all_cons, h1.cell, h2.cell]; rfl
theorem H4 {i j : Nat} {b x : Option Blk} {h : Heap} (e : j = i) (hx : b = x) : app [(i, b)] h j = x := by subst e; subst hx; exact upd_same _ _ _
theorem D8 {i j : Nat} {b x : Option Blk} {h : Heap} (e : ¬ j = i) (hx : h j = x) : app [(i, b)] h j = x := (upd_ne _ _ e).trans hx
theorem E6 {cs c : List V} (h : cs.length = c.length) : splice cs 0 c = c := by unfold splice; simp [h]
def Fr (h : Heap) (n : Nat) (S : List Nat) (g : Heap) : Prop := ∀ j, j < n → j ∉ S → g j = h j
theorem Fr.refl (h : Heap) (n : Nat) (S : List Nat) : Fr h n S h := fun _ _ _ => rfl
structure MK where
 i : Nat
 y : Int
 m : Nat
 g : Heap
structure MkI {α : Type} (f : α → List T) (mk : Int → α → α) (ct : α → Nat) (ty : TypeId) (ks : List Kd) (L : List α) (k : Int) (S : List Nat) (v : V) (h : Heap) (n : Nat) (a : MK) : Prop where
 il : a.i ≤ L.length
 yk : a.y = k + (ctL ct (L.take a.i) : Int)
 ow : Own a.g (.sl ty ks) S v (.sl false ((mix (mkL mk ct k L) L a.i).map f))
 fr : Fr h n S a.g
 nm : n ≤ a.m
 ch : Ch h a.g
structure TO where
 i : Nat
 S : List Nat
 m : Nat
 g : Heap
structure ToI {α : Type} (f : α → List T) (d : α) (ty : TypeId) (ks : List Kd) (L : List α) (id len : Nat) (h : Heap) (n : Nat) (a : TO) : Prop where
 il : a.i ≤ L.length
 ow : Own a.g (.sl ty ks) (id :: a.S) (.view id 0 len) (.sl false ((mix L (List.replicate L.length d) a.i).map f))
 nd : (id :: a.S).Nodup
 rg : ∀ j ∈ id :: a.S, n ≤ j ∧ j < a.m
 fr : ∀ j, j < n → a.g j = h j
 nm : n ≤ a.m
 ch : Ch h a.g
structure New (h : Heap) (n : Nat) (S : List Nat) (g : Heap) (m : Nat) : Prop where
 nd : S.Nodup
 rg : ∀ j ∈ S, n ≤ j ∧ j < m
 fr : ∀ j, j < n → g j = h j
theorem ndIns {id : Nat} {A B C D : List Nat} {m : Nat} (h : (id :: (A ++ (B ++ C))).Nodup) (r : ∀ j ∈ id :: (A ++ (B ++ C)), j < m) (hd : D.Nodup) (hr : ∀ j ∈ D, m ≤ j) : (id :: (A ++ (D ++ C))).Nodup := by
 refine List.nodup_iff_count.2 fun j => ?_
 have a1 := List.nodup_iff_count.1 h j
 have a2 := List.nodup_iff_count.1 hd j
 simp only [List.count_cons, List.count_append] at a1 ⊢
 rcases Nat.lt_or_ge j m with q | q
 ·have : D.count j = 0 := List.count_eq_zero.2 fun q2 => by have := hr j q2; omega
  omega
 ·have e0 : (id :: (A ++ (B ++ C))).count j = 0 := List.count_eq_zero.2 fun q2 => by have := r j q2; omega
  simp only [List.count_cons, List.count_append] at e0
  omega
theorem ToI.step {α : Type} {f : α → List T} {d : α} {ty : TypeId} {ks : List Kd} {L : List α} {id len : Nat} {h : Heap} {n : Nat} {a : TO} (hI : ToI f d ty ks L id len h n a) (hi : a.i < L.length) :
  ∃ R r, a.g id = some ⟨R, ks.length, ty⟩ ∧ R[0 + a.i]? = some r ∧ (∃ e, r.length = (f e).length) ∧
   ∀ (g1 : Heap) (m1 : Nat) (S3 : List Nat) (c : List V) (GG : Heap), OwnR g1 ks S3 c (f (L.getD a.i d)) → New a.g a.m S3 g1 m1 → a.m ≤ m1 → Ch a.g g1 → GG = upd g1 id (some ⟨R.set (0 + a.i) c, ks.length, ty⟩) →
    ∃ S', ToI f d ty ks L id len h n ⟨a.i + 1, S', m1, GG⟩ := by
 have hrl : L.length = (List.replicate L.length d).length := by simp
 have hml := I5 (A := L) (L := List.replicate L.length d) (i := a.i) hrl (by simp; exact hI.il)
 rw [List.length_replicate] at hml
 obtain ⟨R, S1, Si, S2, r, hb, hS, hle, hr, hor, hback⟩ := hI.ow.at d (i := a.i) (by rw [hml]; exact hi)
 refine ⟨R, r, hb, by rw [Nat.zero_add]; exact hr, ⟨_, hor.len⟩, fun g1 m1 S3 c GG oc hN hm hc hGG => ⟨S1 ++ (S3 ++ S2), ?_⟩⟩
 have hS' : a.S = S1 ++ (Si ++ S2) := (List.cons.inj hS).2
 have hnd := hI.nd
 have hrg := hI.rg
 rw [hS] at hnd hrg
 have hid := hrg id List.mem_cons_self
 have ne3 : ∀ j ∈ S3, j ≠ id := fun j hj e => by have := (hN.rg j hj).1; omega
 subst hGG
 refine ⟨hi, ?_, ndIns hnd (fun j hj => (hrg j hj).2) hN.nd fun j hj => (hN.rg j hj).1, fun j hj => ?_, fun j hj => ?_, Nat.le_trans hI.nm hm, (hI.ch.trans hc).upd⟩
 ·dsimp only
  rw [← E8 d hrl (by simp; exact hi)]
  refine hback _ S3 c _ (by rw [upd_same, Nat.zero_add]) (fun j hj => ?_) (oc.congr fun j hj => upd_ne _ _ (ne3 j hj))
  have hjm : j ∈ id :: (S1 ++ (Si ++ S2)) := by rcases hj with q | q <;> simp [q]
  have hne : j ≠ id := by
   intro e
   subst e
   refine F3 hnd (A := [j]) (B := S1 ++ S2) (List.mem_singleton.2 rfl) (by simpa using hj) ?_
   simp only [List.count_cons, List.count_append, List.count_nil]; omega
  rw [upd_ne _ _ hne]
  exact hN.fr j (hrg j hjm).2
 ·have hm2 := hI.nm
  rcases List.mem_cons.1 hj with q | q
  ·subst q; dsimp only; omega
  ·rcases List.mem_append.1 q with q | q
   ·have := hrg j (by simp [q]); dsimp only; omega
   ·rcases List.mem_append.1 q with q | q
    ·have := hN.rg j q; dsimp only; omega
    ·have := hrg j (by simp [q]); dsimp only; omega
 ·dsimp only
  have hm2 := hI.nm
  rw [upd_ne _ _ (by omega), hN.fr j (by omega)]
  exact hI.fr j hj
structure Rng (S : List Nat) (lo hi : Nat) : Prop where
 nd : S.Nodup
 rg : ∀ j ∈ S, lo ≤ j ∧ j < hi
theorem Rng.nil {a b : Nat} : Rng [] a b := ⟨List.nodup_nil, fun j h => by cases h⟩
theorem Rng.app {A B : List Nat} {a b c d : Nat} (x : Rng A a b) (y : Rng B c d) (h1 : a ≤ c := by omega) (h2 : b ≤ c := by omega) (h3 : b ≤ d := by omega) : Rng (A ++ B) a d :=
 ⟨ndApp x.nd y.nd (fun j hj => (x.rg j hj).2) (fun j hj => Nat.le_trans h2 (y.rg j hj).1), fun j hj => by
  rcases List.mem_append.1 hj with q | q
  ·have := x.rg j q; omega
  ·have := y.rg j q; omega⟩
theorem New.rng {h : Heap} {n : Nat} {S : List Nat} {g : Heap} {m : Nat} (x : New h n S g m) : Rng S n m := ⟨x.nd, x.rg⟩
theorem Rng.mono {S : List Nat} {a b c d : Nat} (x : Rng S a b) (h1 : c ≤ a := by omega) (h2 : b ≤ d := by omega) : Rng S c d := ⟨x.nd, fun j hj => by have := x.rg j hj; omega⟩
theorem New.of {h : Heap} {n : Nat} {S : List Nat} {g : Heap} {m : Nat} (x : Rng S n m) (fr : ∀ j, j < n → g j = h j) : New h n S g m := ⟨x.nd, x.rg, fr⟩
open Go Go.V
set_option linter.unusedVariables false
set_option linter.unusedSimpArgs false
set_option maxRecDepth 20000
set_option maxHeartbeats 4000000
def shMsg : List Sh := .int .i64 :: .int .i64 :: .int .i64 :: .int .i64 :: .str :: .str :: .str :: []
theorem I8 {xs : List V.T} (h : Shs xs shMsg) : ∃ s : Msg, xs = Msg.T s := by
 obtain ⟨_, _, rfl, g0, k0⟩ := C6 h; obtain ⟨a0, rfl⟩ := K7 g0
 obtain ⟨_, _, rfl, g1, k1⟩ := C6 k0; obtain ⟨a1, rfl⟩ := K7 g1
 obtain ⟨_, _, rfl, g2, k2⟩ := C6 k1; obtain ⟨a2, rfl⟩ := K7 g2
 obtain ⟨_, _, rfl, g3, k3⟩ := C6 k2; obtain ⟨a3, rfl⟩ := K7 g3
 obtain ⟨_, _, rfl, g4, k4⟩ := C6 k3; obtain ⟨a4, rfl⟩ := V1 g4
 obtain ⟨_, _, rfl, g5, k5⟩ := C6 k4; obtain ⟨a5, rfl⟩ := V1 g5
 obtain ⟨_, _, rfl, g6, k6⟩ := C6 k5; obtain ⟨a6, rfl⟩ := V1 g6
 obtain rfl := O2 k6
 exact ⟨⟨a0, a1, a2, a3, a4, a5, a6⟩, rfl⟩
theorem Msg.tb {B : Nat} {s : Msg} : TBs B (Msg.T s) ↔ s.dg.size ≤ B ∧ s.bd.size ≤ B ∧ s.mc.size ≤ B := by
 simp only [Msg.T, F0, O9, I4, O1, O0, J8, true_and, and_true]
def shCt : List Sh := .str :: .sl shMsg :: []
theorem shCt_inv {xs : List V.T} (h : Shs xs shCt) : ∃ s : Ct, xs = (Ct.T false) s := by
 obtain ⟨_, _, rfl, g0, k0⟩ := C6 h; obtain ⟨a0, rfl⟩ := V1 g0
 obtain ⟨_, _, rfl, g1, k1⟩ := C6 k0; obtain ⟨a1, rfl⟩ := J1 (f := Msg.T) g1 (fun _ h => I8 h)
 obtain rfl := O2 k1
 exact ⟨⟨a0, a1⟩, rfl⟩
theorem Ct.tb {B : Nat} {s : Ct} : TBs B ((Ct.T false) s) ↔ s.bd.size ≤ B ∧ TB B (.sl false (s.ps.map Msg.T)) := by
 simp only [Ct.T, F0, O9, I4, O1, O0, J8, true_and, and_true]
structure Slt where
 bd : ByteArray
 pr : List Msg
 cm : List Msg
 se : Bool
 dn : Bool
def Slt.T (s : Slt) : List V.T := .str s.bd :: .sl false (s.pr.map Msg.T) :: .sl false (s.cm.map Msg.T) :: .bool s.se :: .bool s.dn :: []
def Slt0 : Slt := ⟨⟨#[]⟩, [], [], false, false⟩
def shSlt : List Sh := .str :: .sl shMsg :: .sl shMsg :: .bool :: .bool :: []
theorem shSlt_inv {xs : List V.T} (h : Shs xs shSlt) : ∃ s : Slt, xs = Slt.T s := by
 obtain ⟨_, _, rfl, g0, k0⟩ := C6 h; obtain ⟨a0, rfl⟩ := V1 g0
 obtain ⟨_, _, rfl, g1, k1⟩ := C6 k0; obtain ⟨a1, rfl⟩ := J1 (f := Msg.T) g1 (fun _ h => I8 h)
 obtain ⟨_, _, rfl, g2, k2⟩ := C6 k1; obtain ⟨a2, rfl⟩ := J1 (f := Msg.T) g2 (fun _ h => I8 h)
 obtain ⟨_, _, rfl, g3, k3⟩ := C6 k2; obtain ⟨a3, rfl⟩ := sh_bool g3
 obtain ⟨_, _, rfl, g4, k4⟩ := C6 k3; obtain ⟨a4, rfl⟩ := sh_bool g4
 obtain rfl := O2 k4
 exact ⟨⟨a0, a1, a2, a3, a4⟩, rfl⟩
theorem Slt.tb {B : Nat} {s : Slt} : TBs B (Slt.T s) ↔ s.bd.size ≤ B ∧ TB B (.sl false (s.pr.map Msg.T)) ∧ TB B (.sl false (s.cm.map Msg.T)) := by
 simp only [Slt.T, F0, O9, I4, O1, O0, J8, true_and, and_true]
structure Rep where
 id : Int
 nd : Int
 vw : Int
 ac : Bool
 sl : List Slt
 cs : List Ct
 lg : List ByteArray
 ch : List Msg
def Rep.T (s : Rep) : List V.T := .int .i64 s.id :: .int .i64 s.nd :: .int .i64 s.vw :: .bool s.ac :: .sl false (s.sl.map Slt.T) :: .sl false (s.cs.map (Ct.T false)) :: .sl false (s.lg.map tT) :: .sl false (s.ch.map Msg.T) :: []
def Rep0 : Rep := ⟨0, 0, 0, false, [], [], [], []⟩
def shRep : List Sh := .int .i64 :: .int .i64 :: .int .i64 :: .bool :: .sl shSlt :: .sl shCt :: .sl shByteArray :: .sl shMsg :: []
theorem shRep_inv {xs : List V.T} (h : Shs xs shRep) : ∃ s : Rep, xs = Rep.T s := by
 obtain ⟨_, _, rfl, g0, k0⟩ := C6 h; obtain ⟨a0, rfl⟩ := K7 g0
 obtain ⟨_, _, rfl, g1, k1⟩ := C6 k0; obtain ⟨a1, rfl⟩ := K7 g1
 obtain ⟨_, _, rfl, g2, k2⟩ := C6 k1; obtain ⟨a2, rfl⟩ := K7 g2
 obtain ⟨_, _, rfl, g3, k3⟩ := C6 k2; obtain ⟨a3, rfl⟩ := sh_bool g3
 obtain ⟨_, _, rfl, g4, k4⟩ := C6 k3; obtain ⟨a4, rfl⟩ := J1 (f := Slt.T) g4 (fun _ h => shSlt_inv h)
 obtain ⟨_, _, rfl, g5, k5⟩ := C6 k4; obtain ⟨a5, rfl⟩ := J1 (f := (Ct.T false)) g5 (fun _ h => shCt_inv h)
 obtain ⟨_, _, rfl, g6, k6⟩ := C6 k5; obtain ⟨a6, rfl⟩ := J1 (f := tT) g6 (fun _ h => Y5 h)
 obtain ⟨_, _, rfl, g7, k7⟩ := C6 k6; obtain ⟨a7, rfl⟩ := J1 (f := Msg.T) g7 (fun _ h => I8 h)
 obtain rfl := O2 k7
 exact ⟨⟨a0, a1, a2, a3, a4, a5, a6, a7⟩, rfl⟩
theorem Rep.tb {B : Nat} {s : Rep} : TBs B (Rep.T s) ↔ TB B (.sl false (s.sl.map Slt.T)) ∧ TB B (.sl false (s.cs.map (Ct.T false))) ∧ TB B (.sl false (s.lg.map tT)) ∧ TB B (.sl false (s.ch.map Msg.T)) := by
 simp only [Rep.T, F0, O9, I4, O1, O0, J8, true_and, and_true]
theorem lt61 (s : Msg) (hb : TBs 1048576 (Msg.T s)) : Pure En 61 [.agg (Msg.T s)] [.agg (Msg.T s)] := by
 obtain ⟨b0, b1, b2⟩ := Msg.tb.1 hb
 refine Pure.of_ev (st := []) Tryz.func61 rfl kb ?_
 refine A2 ?_
 (apply est (u := .int _ _) j3; exact Q0; rfl; exact j2; rfl; rfl; exact kb; rfl)
 refine A2 ?_
 (apply est (u := .int _ _) j3; exact Q0; rfl; exact j2; rfl; rfl; exact kb; rfl)
 refine A2 ?_
 (apply est (u := .int _ _) j3; exact Q0; rfl; exact j2; rfl; rfl; exact kb; rfl)
 refine A2 ?_
 (apply est (u := .int _ _) j3; exact Q0; rfl; exact j2; rfl; rfl; exact kb; rfl)
 refine A2 ?_
 (apply est (u := .str _) j3; exact Q0; rfl; exact j2; rfl; rfl; exact kb; rfl)
 refine A2 ?_
 (apply est (u := .str _) j3; exact Q0; rfl; exact j2; rfl; rfl; exact kb; rfl)
 refine A2 ?_
 (apply est (u := .str _) j3; exact Q0; rfl; exact j2; rfl; rfl; exact kb; rfl)
 (apply D2 (vs := [.int _ _, .int _ _, .int _ _, .int _ _, .str _, .str _, .str _]) j2; exact Q0; rfl; rfl; exact kb; rfl)
 (apply est (u := .agg [.int _ _, .int _ _, .int _ _, .int _ _, .str _, .str _, .str _]) j3; exact Q0; rfl; exact j2; rfl; rfl; exact kb; rfl)
 refine D3 [] (A0 (A4 (xs := (Msg.T s).map (T.toV true)) rfl (by exact Q0) j2 kb rfl) A1) ?_
 exact SnapL.cons _ _ _ _ (SnapC.agg (F1 _)) SnapL.nil
theorem lt15 (L : List Msg) (hb : TB 1048576 (.sl false (L.map Msg.T))) : Pure En 15 [.one (.sl false (L.map Msg.T))] [.one (.sl false (L.map Msg.T))] := by
 have hl : (L.map Msg.T).length = L.length := List.length_map ..
 obtain ⟨hm, hs⟩ := (B9 Msg.T Msg0).1 hb
 refine Pure.of_ev (st := []) Tryz.func15 rfl kb ?_
 refine emk (s' := 80) j6 kz ?_ ?_ ?_
 ·exact E7
 ·exact E7
 refine A9 (fun (i : Nat) => [.sl false false (L.map Msg.T), .unk, .unk, .view 0 0 (L.map Msg.T).length, .int .i64 i]) (fun (i : Nat) => hp [(0, ⟨mkG (vT Msg.T) [.int .i64 0, .int .i64 0, .int .i64 0, .int .i64 0, .str ⟨#[]⟩, .str ⟨#[]⟩, .str ⟨#[]⟩] L i, 7, 37⟩)]) (fun (i : Nat) => 1) (fun (i : Nat) => i ≤ L.length) (fun (i : Nat) => L.length - i) 0 ?_ ?_ ?_ ?_ ?_
 ·exact Nat.zero_le _
 ·(repeat first | exact LE.nil _ | refine LE.unk _ _ ?_ | refine LE.eq _ _ _ rfl ?_)
 ·(repeat first | exact A5 | (refine A6 ?_ ?_; (first | exact Q0 | ((simp (disch := omega) only [↓app0, ↓appC, ↓updS, ↓updN, ↓hpS, ↓hpN]); exact congrArg (fun z => some (Blk.mk z 7 37)) (by rw [I9, ← hl]; rfl)))))
 ·exact Nat.le_refl _
 intro i hI ih
 refine A3 (st := []) ?_
 refine br ?_ ?_ <;> intro h3_3
 ·(refine C0 (D1 (by first | rfl | assumption | (exact B6 Msg.T Msg0 (by omega))) rfl ?_))
  refine C5 (lt61 (L.getD i Msg0) (hs i (by omega))) rfl rfl rfl ?_
  (refine D7 (by exact Q0) ⟨rfl, C0 ?_⟩)
  (apply est j3; exact Q0; exact L6 (vT Msg.T) [.int .i64 0, .int .i64 0, .int .i64 0, .int .i64 0, .str ⟨#[]⟩, .str ⟨#[]⟩, .str ⟨#[]⟩] (by omega); exact j2; rfl; rfl; exact kb; rfl)
  refine C1 ?_
  exact C9 (ih (i + 1) (by omega) (by omega)) (by (repeat first | exact LE.nil _ | refine LE.unk _ _ ?_ | refine LE.eq _ _ _ rfl ?_)) (by (repeat first | exact A5 | (refine A6 ?_ ?_; ((simp (disch := omega) only [↓app0, ↓appC, ↓updS, ↓updN, ↓hpS, ↓hpN]); exact congrArg (fun z => some (Blk.mk z 7 37)) (L7 (vT Msg.T) [.int .i64 0, .int .i64 0, .int .i64 0, .int .i64 0, .str ⟨#[]⟩, .str ⟨#[]⟩, .str ⟨#[]⟩] Msg0 (by omega)))))) (Nat.le_refl _)
 ·obtain rfl : i = L.length := by omega
  refine D3 [0] rfl ?_
  exact SnapL.cons _ _ _ _ (.one _ _ (H9 (sz := 7) (ty := 37) (by simp) (by (simp (disch := omega) only [↓app0, ↓appC, ↓updS, ↓updN, ↓hpS, ↓hpN]); exact congrArg (fun z => some (Blk.mk z 7 37)) (J0 (vT Msg.T) [.int .i64 0, .int .i64 0, .int .i64 0, .int .i64 0, .str ⟨#[]⟩, .str ⟨#[]⟩, .str ⟨#[]⟩] L)) hl)) SnapL.nil
theorem le66 (s : Msg) (hb : TBs 1048576 (Msg.T s)) : Pure En 66 [.agg (Msg.T s), .agg (Msg.T s)] [.one (.bool true)] := by
 obtain ⟨b0, b1, b2⟩ := Msg.tb.1 hb
 refine Pure.of_ev (st := []) Tryz.func66 rfl kb ?_
 refine A2 ?_
 refine A2 ?_
 refine br ?_ ?_ <;> intro h1_4
 ·first | exact C2 rfl rfl | contradiction | (exfalso; simp_all; done)
 ·refine A2 ?_
  refine A2 ?_
  refine br ?_ ?_ <;> intro h3_4
  ·first | exact C2 rfl rfl | contradiction | (exfalso; simp_all; done)
  ·refine A2 ?_
   refine A2 ?_
   refine br ?_ ?_ <;> intro h5_4
   ·first | exact C2 rfl rfl | contradiction | (exfalso; simp_all; done)
   ·refine A2 ?_
    refine A2 ?_
    refine br ?_ ?_ <;> intro h7_4
    ·first | exact C2 rfl rfl | contradiction | (exfalso; simp_all; done)
    ·refine A2 ?_
     refine A2 ?_
     refine br ?_ ?_ <;> intro h9_4
     ·first | exact C2 rfl rfl | contradiction | (exfalso; simp_all; done)
     ·refine A2 ?_
      refine A2 ?_
      refine br ?_ ?_ <;> intro h11_4
      ·first | exact C2 rfl rfl | contradiction | (exfalso; simp_all; done)
      ·refine A2 ?_
       refine A2 ?_
       refine br ?_ ?_ <;> intro h13_4
       ·first | exact C2 rfl rfl | contradiction | (exfalso; simp_all; done)
       ·first | exact C2 rfl rfl | contradiction | (exfalso; simp_all; done)
theorem le18 (L : List Msg) (hb : TB 1048576 (.sl false (L.map Msg.T))) : Pure En 18 [.one (.sl false (L.map Msg.T)), .one (.sl false (L.map Msg.T))] [.one (.bool true)] := by
 have hl : (L.map Msg.T).length = L.length := List.length_map ..
 obtain ⟨hm, hs⟩ := (B9 Msg.T Msg0).1 hb
 refine Pure.of_ev (st := []) Tryz.func18 rfl kb ?_
 refine br ?_ ?_ <;> intro h1_4
 ·first | exact C2 rfl rfl | contradiction | (exfalso; simp_all; done)
 ·refine D4 (fun (i : Nat) => [.sl false false (L.map Msg.T), .sl false false (L.map Msg.T), .unk, .unk, .unk, .int .i64 i]) (fun (i : Nat) => i ≤ L.length) (fun (i : Nat) => L.length - i) 0 ?_ ?_ ?_
  ·exact Nat.zero_le _
  ·(repeat first | exact LE.nil _ | refine LE.unk _ _ ?_ | refine LE.eq _ _ _ rfl ?_)
  intro i hI ih
  refine A3 (st := []) ?_
  refine br ?_ ?_ <;> intro h4_3
  ·(refine C0 (D1 (by first | rfl | assumption | (exact B6 Msg.T Msg0 (by omega))) rfl ?_))
   (refine C0 (D1 (by first | rfl | assumption | (exact B6 Msg.T Msg0 (by omega))) rfl ?_))
   refine C5 (le66 (L.getD i Msg0) (hs i (by omega))) rfl rfl rfl ?_
   refine C1 ?_
   exact T5 (ih (i + 1) (by omega) (by omega)) (by (repeat first | exact LE.nil _ | refine LE.unk _ _ ?_ | refine LE.eq _ _ _ rfl ?_))
  ·first | exact C2 rfl rfl | contradiction | (exfalso; simp_all; done)
theorem lt80 (L : List ByteArray) (hb : TB 1048576 (.sl false (L.map tT))) : Pure En 80 [.one (.sl false (L.map tT))] [.one (.sl false (L.map tT))] := by
 have hl : (L.map tT).length = L.length := List.length_map ..
 obtain ⟨hm, hs⟩ := (B9 tT (⟨#[]⟩ : ByteArray)).1 hb
 refine Pure.of_ev (st := []) Tryz.func80 rfl kb ?_
 refine emk (s' := 16) j6 kz ?_ ?_ ?_
 ·exact E7
 ·exact E7
 refine A9 (fun (i : Nat) => [.sl false false (L.map tT), .unk, .unk, .view 0 0 (L.map tT).length, .int .i64 i]) (fun (i : Nat) => hp [(0, ⟨mkG (vT tT) [.str ⟨#[]⟩] L i, 1, 9⟩)]) (fun (i : Nat) => 1) (fun (i : Nat) => i ≤ L.length) (fun (i : Nat) => L.length - i) 0 ?_ ?_ ?_ ?_ ?_
 ·exact Nat.zero_le _
 ·(repeat first | exact LE.nil _ | refine LE.unk _ _ ?_ | refine LE.eq _ _ _ rfl ?_)
 ·(repeat first | exact A5 | (refine A6 ?_ ?_; (first | exact Q0 | ((simp (disch := omega) only [↓app0, ↓appC, ↓updS, ↓updN, ↓hpS, ↓hpN]); exact congrArg (fun z => some (Blk.mk z 1 9)) (by rw [I9, ← hl]; rfl)))))
 ·exact Nat.le_refl _
 intro i hI ih
 refine A3 (st := []) ?_
 refine br ?_ ?_ <;> intro h3_3
 ·(refine C0 (D1 (by first | rfl | assumption | (exact B6 tT (⟨#[]⟩ : ByteArray) (by omega))) rfl ?_))
  (refine D7 (by exact Q0) ⟨rfl, C0 ?_⟩)
  (apply est j3; exact Q0; exact L6 (vT tT) [.str ⟨#[]⟩] (by omega); exact j2; rfl; rfl; exact kb; rfl)
  refine C1 ?_
  exact C9 (ih (i + 1) (by omega) (by omega)) (by (repeat first | exact LE.nil _ | refine LE.unk _ _ ?_ | refine LE.eq _ _ _ rfl ?_)) (by (repeat first | exact A5 | (refine A6 ?_ ?_; ((simp (disch := omega) only [↓app0, ↓appC, ↓updS, ↓updN, ↓hpS, ↓hpN]); exact congrArg (fun z => some (Blk.mk z 1 9)) (L7 (vT tT) [.str ⟨#[]⟩] (⟨#[]⟩ : ByteArray) (by omega)))))) (Nat.le_refl _)
 ·obtain rfl : i = L.length := by omega
  refine D3 [0] rfl ?_
  exact SnapL.cons _ _ _ _ (.one _ _ (H9 (sz := 1) (ty := 9) (by simp) (by (simp (disch := omega) only [↓app0, ↓appC, ↓updS, ↓updN, ↓hpS, ↓hpN]); exact congrArg (fun z => some (Blk.mk z 1 9)) (J0 (vT tT) [.str ⟨#[]⟩] L)) hl)) SnapL.nil
theorem le17 (L : List ByteArray) (hb : TB 1048576 (.sl false (L.map tT))) : Pure En 17 [.one (.sl false (L.map tT)), .one (.sl false (L.map tT))] [.one (.bool true)] := by
 have hl : (L.map tT).length = L.length := List.length_map ..
 obtain ⟨hm, hs⟩ := (B9 tT (⟨#[]⟩ : ByteArray)).1 hb
 refine Pure.of_ev (st := []) Tryz.func17 rfl kb ?_
 refine br ?_ ?_ <;> intro h1_4
 ·first | exact C2 rfl rfl | contradiction | (exfalso; simp_all; done)
 ·refine D4 (fun (i : Nat) => [.sl false false (L.map tT), .sl false false (L.map tT), .unk, .unk, .unk, .int .i64 i]) (fun (i : Nat) => i ≤ L.length) (fun (i : Nat) => L.length - i) 0 ?_ ?_ ?_
  ·exact Nat.zero_le _
  ·(repeat first | exact LE.nil _ | refine LE.unk _ _ ?_ | refine LE.eq _ _ _ rfl ?_)
  intro i hI ih
  refine A3 (st := []) ?_
  refine br ?_ ?_ <;> intro h4_3
  ·(refine C0 (D1 (by first | rfl | assumption | (exact B6 tT (⟨#[]⟩ : ByteArray) (by omega))) rfl ?_))
   (refine C0 (D1 (by first | rfl | assumption | (exact B6 tT (⟨#[]⟩ : ByteArray) (by omega))) rfl ?_))
   refine br ?_ ?_ <;> intro h6_8
   ·first | exact C2 rfl rfl | contradiction | (exfalso; simp_all; done)
   ·refine C1 ?_
    exact T5 (ih (i + 1) (by omega) (by omega)) (by (repeat first | exact LE.nil _ | refine LE.unk _ _ ?_ | refine LE.eq _ _ _ rfl ?_))
  ·first | exact C2 rfl rfl | contradiction | (exfalso; simp_all; done)
theorem lt157 (s : Ct) (hb : TBs 1048576 ((Ct.T false) s)) : Pure En 157 [.agg ((Ct.T false) s)] [.agg ((Ct.T false) s)] := by
 obtain ⟨b0, b1⟩ := Ct.tb.1 hb
 refine Pure.of_ev (st := []) Tryz.func157 rfl kb ?_
 refine A2 ?_
 (apply est (u := .str _) j3; exact Q0; rfl; exact j2; rfl; rfl; exact kb; rfl)
 refine A2 ?_
 refine C5 (lt15 s.ps b1) rfl rfl rfl ?_
 (apply est (u := .sl _ _ _) j3; exact Q0; rfl; exact j2; rfl; rfl; exact kb; rfl)
 (apply D2 (vs := [.str _, _]) j2; exact Q0; rfl; rfl; exact kb; rfl)
 (apply est (u := .agg [.str _, _]) j3; exact Q0; rfl; exact j2; rfl; rfl; exact kb; rfl)
 refine D3 [] (A0 (A4 (xs := ((Ct.T false) s).map (T.toV true)) rfl (by exact Q0) j2 kb rfl) A1) ?_
 exact SnapL.cons _ _ _ _ (SnapC.agg (F1 _)) SnapL.nil
theorem lt79 (L : List Ct) (hb : TB 1048576 (.sl false (L.map (Ct.T false)))) : Pure En 79 [.one (.sl false (L.map (Ct.T false)))] [.one (.sl false (L.map (Ct.T false)))] := by
 have hl : (L.map (Ct.T false)).length = L.length := List.length_map ..
 obtain ⟨hm, hs⟩ := (B9 (Ct.T false) Ct0).1 hb
 refine Pure.of_ev (st := []) Tryz.func79 rfl kb ?_
 refine emk (s' := 40) j6 kz ?_ ?_ ?_
 ·exact E7
 ·exact E7
 refine A9 (fun (i : Nat) => [.sl false false (L.map (Ct.T false)), .unk, .unk, .view 0 0 (L.map (Ct.T false)).length, .int .i64 i]) (fun (i : Nat) => hp [(0, ⟨mkG (vT (Ct.T false)) [.str ⟨#[]⟩, .nsl] L i, 2, 44⟩)]) (fun (i : Nat) => 1) (fun (i : Nat) => i ≤ L.length) (fun (i : Nat) => L.length - i) 0 ?_ ?_ ?_ ?_ ?_
 ·exact Nat.zero_le _
 ·(repeat first | exact LE.nil _ | refine LE.unk _ _ ?_ | refine LE.eq _ _ _ rfl ?_)
 ·(repeat first | exact A5 | (refine A6 ?_ ?_; (first | exact Q0 | ((simp (disch := omega) only [↓app0, ↓appC, ↓updS, ↓updN, ↓hpS, ↓hpN]); exact congrArg (fun z => some (Blk.mk z 2 44)) (by rw [I9, ← hl]; rfl)))))
 ·exact Nat.le_refl _
 intro i hI ih
 refine A3 (st := []) ?_
 refine br ?_ ?_ <;> intro h3_3
 ·(refine C0 (D1 (by first | rfl | assumption | (exact B6 (Ct.T false) Ct0 (by omega))) rfl ?_))
  refine C5 (lt157 (L.getD i Ct0) (hs i (by omega))) rfl rfl rfl ?_
  (refine D7 (by exact Q0) ⟨rfl, C0 ?_⟩)
  (apply est j3; exact Q0; exact L6 (vT (Ct.T false)) [.str ⟨#[]⟩, .nsl] (by omega); exact j2; rfl; rfl; exact kb; rfl)
  refine C1 ?_
  exact C9 (ih (i + 1) (by omega) (by omega)) (by (repeat first | exact LE.nil _ | refine LE.unk _ _ ?_ | refine LE.eq _ _ _ rfl ?_)) (by (repeat first | exact A5 | (refine A6 ?_ ?_; ((simp (disch := omega) only [↓app0, ↓appC, ↓updS, ↓updN, ↓hpS, ↓hpN]); exact congrArg (fun z => some (Blk.mk z 2 44)) (L7 (vT (Ct.T false)) [.str ⟨#[]⟩, .nsl] Ct0 (by omega)))))) (Nat.le_refl _)
 ·obtain rfl : i = L.length := by omega
  refine D3 [0] rfl ?_
  exact SnapL.cons _ _ _ _ (.one _ _ (H9 (sz := 2) (ty := 44) (by simp) (by (simp (disch := omega) only [↓app0, ↓appC, ↓updS, ↓updN, ↓hpS, ↓hpN]); exact congrArg (fun z => some (Blk.mk z 2 44)) (J0 (vT (Ct.T false)) [.str ⟨#[]⟩, .nsl] L)) hl)) SnapL.nil
theorem le163 (s : Ct) (hb : TBs 1048576 ((Ct.T false) s)) : Pure En 163 [.agg ((Ct.T false) s), .agg ((Ct.T false) s)] [.one (.bool true)] := by
 obtain ⟨b0, b1⟩ := Ct.tb.1 hb
 refine Pure.of_ev (st := []) Tryz.func163 rfl kb ?_
 refine A2 ?_
 refine A2 ?_
 refine br ?_ ?_ <;> intro h1_4
 ·first | exact C2 rfl rfl | contradiction | (exfalso; simp_all; done)
 ·refine A2 ?_
  refine A2 ?_
  refine C5 (le18 s.ps b1) rfl rfl rfl ?_
  first | exact C2 rfl rfl | contradiction | (exfalso; simp_all; done)
theorem le88 (L : List Ct) (hb : TB 1048576 (.sl false (L.map (Ct.T false)))) : Pure En 88 [.one (.sl false (L.map (Ct.T false))), .one (.sl false (L.map (Ct.T false)))] [.one (.bool true)] := by
 have hl : (L.map (Ct.T false)).length = L.length := List.length_map ..
 obtain ⟨hm, hs⟩ := (B9 (Ct.T false) Ct0).1 hb
 refine Pure.of_ev (st := []) Tryz.func88 rfl kb ?_
 refine br ?_ ?_ <;> intro h1_4
 ·first | exact C2 rfl rfl | contradiction | (exfalso; simp_all; done)
 ·refine D4 (fun (i : Nat) => [.sl false false (L.map (Ct.T false)), .sl false false (L.map (Ct.T false)), .unk, .unk, .unk, .int .i64 i]) (fun (i : Nat) => i ≤ L.length) (fun (i : Nat) => L.length - i) 0 ?_ ?_ ?_
  ·exact Nat.zero_le _
  ·(repeat first | exact LE.nil _ | refine LE.unk _ _ ?_ | refine LE.eq _ _ _ rfl ?_)
  intro i hI ih
  refine A3 (st := []) ?_
  refine br ?_ ?_ <;> intro h4_3
  ·(refine C0 (D1 (by first | rfl | assumption | (exact B6 (Ct.T false) Ct0 (by omega))) rfl ?_))
   (refine C0 (D1 (by first | rfl | assumption | (exact B6 (Ct.T false) Ct0 (by omega))) rfl ?_))
   refine C5 (le163 (L.getD i Ct0) (hs i (by omega))) rfl rfl rfl ?_
   refine C1 ?_
   exact T5 (ih (i + 1) (by omega) (by omega)) (by (repeat first | exact LE.nil _ | refine LE.unk _ _ ?_ | refine LE.eq _ _ _ rfl ?_))
  ·first | exact C2 rfl rfl | contradiction | (exfalso; simp_all; done)
theorem lt156 (s : Slt) (hb : TBs 1048576 (Slt.T s)) : Pure En 156 [.agg (Slt.T s)] [.agg (Slt.T s)] := by
 obtain ⟨b0, b1, b2⟩ := Slt.tb.1 hb
 refine Pure.of_ev (st := []) Tryz.func156 rfl kb ?_
 refine A2 ?_
 (apply est (u := .str _) j3; exact Q0; rfl; exact j2; rfl; rfl; exact kb; rfl)
 refine A2 ?_
 refine C5 (lt15 s.pr b1) rfl rfl rfl ?_
 (apply est (u := .sl _ _ _) j3; exact Q0; rfl; exact j2; rfl; rfl; exact kb; rfl)
 refine A2 ?_
 refine C5 (lt15 s.cm b2) rfl rfl rfl ?_
 (apply est (u := .sl _ _ _) j3; exact Q0; rfl; exact j2; rfl; rfl; exact kb; rfl)
 refine A2 ?_
 refine brB ?_ ?_ <;> intro h5_1
 ·(apply est (u := .bool _) j3; exact Q0; rfl; exact j2; rfl; rfl; exact kb; rfl)
  refine A2 ?_
  refine brB ?_ ?_ <;> intro h6_1
  ·(apply est (u := .bool _) j3; exact Q0; rfl; exact j2; rfl; rfl; exact kb; rfl)
   (apply D2 (vs := [.str _, _, _, .bool _, .bool _]) j2; exact Q0; rfl; rfl; exact kb; rfl)
   (apply est (u := .agg [.str _, _, _, .bool _, .bool _]) j3; exact Q0; rfl; exact j2; rfl; rfl; exact kb; rfl)
   refine D3 [] (A0 (A4 (xs := (Slt.T s).map (T.toV true)) rfl (by exact Q0) j2 kb (by simp only [Slt.T, ‹s.se = _›, ‹s.dn = _›] <;> rfl)) A1) ?_
   exact SnapL.cons _ _ _ _ (SnapC.agg (F1 _)) SnapL.nil
  ·(apply est (u := .bool _) j3; exact Q0; rfl; exact j2; rfl; rfl; exact kb; rfl)
   (apply D2 (vs := [.str _, _, _, .bool _, .bool _]) j2; exact Q0; rfl; rfl; exact kb; rfl)
   (apply est (u := .agg [.str _, _, _, .bool _, .bool _]) j3; exact Q0; rfl; exact j2; rfl; rfl; exact kb; rfl)
   refine D3 [] (A0 (A4 (xs := (Slt.T s).map (T.toV true)) rfl (by exact Q0) j2 kb (by simp only [Slt.T, ‹s.se = _›, ‹s.dn = _›] <;> rfl)) A1) ?_
   exact SnapL.cons _ _ _ _ (SnapC.agg (F1 _)) SnapL.nil
 ·(apply est (u := .bool _) j3; exact Q0; rfl; exact j2; rfl; rfl; exact kb; rfl)
  refine A2 ?_
  refine brB ?_ ?_ <;> intro h6_1
  ·(apply est (u := .bool _) j3; exact Q0; rfl; exact j2; rfl; rfl; exact kb; rfl)
   (apply D2 (vs := [.str _, _, _, .bool _, .bool _]) j2; exact Q0; rfl; rfl; exact kb; rfl)
   (apply est (u := .agg [.str _, _, _, .bool _, .bool _]) j3; exact Q0; rfl; exact j2; rfl; rfl; exact kb; rfl)
   refine D3 [] (A0 (A4 (xs := (Slt.T s).map (T.toV true)) rfl (by exact Q0) j2 kb (by simp only [Slt.T, ‹s.se = _›, ‹s.dn = _›] <;> rfl)) A1) ?_
   exact SnapL.cons _ _ _ _ (SnapC.agg (F1 _)) SnapL.nil
  ·(apply est (u := .bool _) j3; exact Q0; rfl; exact j2; rfl; rfl; exact kb; rfl)
   (apply D2 (vs := [.str _, _, _, .bool _, .bool _]) j2; exact Q0; rfl; rfl; exact kb; rfl)
   (apply est (u := .agg [.str _, _, _, .bool _, .bool _]) j3; exact Q0; rfl; exact j2; rfl; rfl; exact kb; rfl)
   refine D3 [] (A0 (A4 (xs := (Slt.T s).map (T.toV true)) rfl (by exact Q0) j2 kb (by simp only [Slt.T, ‹s.se = _›, ‹s.dn = _›] <;> rfl)) A1) ?_
   exact SnapL.cons _ _ _ _ (SnapC.agg (F1 _)) SnapL.nil
theorem lt78 (L : List Slt) (hb : TB 1048576 (.sl false (L.map Slt.T))) : Pure En 78 [.one (.sl false (L.map Slt.T))] [.one (.sl false (L.map Slt.T))] := by
 have hl : (L.map Slt.T).length = L.length := List.length_map ..
 obtain ⟨hm, hs⟩ := (B9 Slt.T Slt0).1 hb
 refine Pure.of_ev (st := []) Tryz.func78 rfl kb ?_
 refine emk (s' := 72) j6 kz ?_ ?_ ?_
 ·exact E7
 ·exact E7
 refine A9 (fun (i : Nat) => [.sl false false (L.map Slt.T), .unk, .unk, .view 0 0 (L.map Slt.T).length, .int .i64 i]) (fun (i : Nat) => hp [(0, ⟨mkG (vT Slt.T) [.str ⟨#[]⟩, .nsl, .nsl, .bool false, .bool false] L i, 5, 80⟩)]) (fun (i : Nat) => 1) (fun (i : Nat) => i ≤ L.length) (fun (i : Nat) => L.length - i) 0 ?_ ?_ ?_ ?_ ?_
 ·exact Nat.zero_le _
 ·(repeat first | exact LE.nil _ | refine LE.unk _ _ ?_ | refine LE.eq _ _ _ rfl ?_)
 ·(repeat first | exact A5 | (refine A6 ?_ ?_; (first | exact Q0 | ((simp (disch := omega) only [↓app0, ↓appC, ↓updS, ↓updN, ↓hpS, ↓hpN]); exact congrArg (fun z => some (Blk.mk z 5 80)) (by rw [I9, ← hl]; rfl)))))
 ·exact Nat.le_refl _
 intro i hI ih
 refine A3 (st := []) ?_
 refine br ?_ ?_ <;> intro h3_3
 ·(refine C0 (D1 (by first | rfl | assumption | (exact B6 Slt.T Slt0 (by omega))) rfl ?_))
  refine C5 (lt156 (L.getD i Slt0) (hs i (by omega))) rfl rfl rfl ?_
  (refine D7 (by exact Q0) ⟨rfl, C0 ?_⟩)
  (apply est j3; exact Q0; exact L6 (vT Slt.T) [.str ⟨#[]⟩, .nsl, .nsl, .bool false, .bool false] (by omega); exact j2; rfl; rfl; exact kb; rfl)
  refine C1 ?_
  exact C9 (ih (i + 1) (by omega) (by omega)) (by (repeat first | exact LE.nil _ | refine LE.unk _ _ ?_ | refine LE.eq _ _ _ rfl ?_)) (by (repeat first | exact A5 | (refine A6 ?_ ?_; ((simp (disch := omega) only [↓app0, ↓appC, ↓updS, ↓updN, ↓hpS, ↓hpN]); exact congrArg (fun z => some (Blk.mk z 5 80)) (L7 (vT Slt.T) [.str ⟨#[]⟩, .nsl, .nsl, .bool false, .bool false] Slt0 (by omega)))))) (Nat.le_refl _)
 ·obtain rfl : i = L.length := by omega
  refine D3 [0] rfl ?_
  exact SnapL.cons _ _ _ _ (.one _ _ (H9 (sz := 5) (ty := 80) (by simp) (by (simp (disch := omega) only [↓app0, ↓appC, ↓updS, ↓updN, ↓hpS, ↓hpN]); exact congrArg (fun z => some (Blk.mk z 5 80)) (J0 (vT Slt.T) [.str ⟨#[]⟩, .nsl, .nsl, .bool false, .bool false] L)) hl)) SnapL.nil
theorem le162 (s : Slt) (hb : TBs 1048576 (Slt.T s)) : Pure En 162 [.agg (Slt.T s), .agg (Slt.T s)] [.one (.bool true)] := by
 obtain ⟨b0, b1, b2⟩ := Slt.tb.1 hb
 refine Pure.of_ev (st := []) Tryz.func162 rfl kb ?_
 refine A2 ?_
 refine A2 ?_
 refine br ?_ ?_ <;> intro h1_4
 ·first | exact C2 rfl rfl | contradiction | (exfalso; simp_all; done)
 ·refine A2 ?_
  refine A2 ?_
  refine C5 (le18 s.pr b1) rfl rfl rfl ?_
  refine A2 ?_
  refine A2 ?_
  refine C5 (le18 s.cm b2) rfl rfl rfl ?_
  refine A2 ?_
  refine brB ?_ ?_ <;> intro h7_1
  ·refine A2 ?_
   refine brB ?_ ?_ <;> intro h7_3
   ·refine A2 ?_
    refine brB ?_ ?_ <;> intro h9_1
    ·refine A2 ?_
     refine brB ?_ ?_ <;> intro h9_3
     ·first | exact C2 rfl rfl | contradiction | (exfalso; simp_all; done)
     ·first | exact C2 rfl rfl | contradiction | (exfalso; simp_all; done)
    ·refine A2 ?_
     refine brB ?_ ?_ <;> intro h9_3
     ·first | exact C2 rfl rfl | contradiction | (exfalso; simp_all; done)
     ·first | exact C2 rfl rfl | contradiction | (exfalso; simp_all; done)
   ·first | exact C2 rfl rfl | contradiction | (exfalso; simp_all; done)
  ·refine A2 ?_
   refine brB ?_ ?_ <;> intro h7_3
   ·first | exact C2 rfl rfl | contradiction | (exfalso; simp_all; done)
   ·refine A2 ?_
    refine brB ?_ ?_ <;> intro h9_1
    ·refine A2 ?_
     refine brB ?_ ?_ <;> intro h9_3
     ·first | exact C2 rfl rfl | contradiction | (exfalso; simp_all; done)
     ·first | exact C2 rfl rfl | contradiction | (exfalso; simp_all; done)
    ·refine A2 ?_
     refine brB ?_ ?_ <;> intro h9_3
     ·first | exact C2 rfl rfl | contradiction | (exfalso; simp_all; done)
     ·first | exact C2 rfl rfl | contradiction | (exfalso; simp_all; done)
theorem le87 (L : List Slt) (hb : TB 1048576 (.sl false (L.map Slt.T))) : Pure En 87 [.one (.sl false (L.map Slt.T)), .one (.sl false (L.map Slt.T))] [.one (.bool true)] := by
 have hl : (L.map Slt.T).length = L.length := List.length_map ..
 obtain ⟨hm, hs⟩ := (B9 Slt.T Slt0).1 hb
 refine Pure.of_ev (st := []) Tryz.func87 rfl kb ?_
 refine br ?_ ?_ <;> intro h1_4
 ·first | exact C2 rfl rfl | contradiction | (exfalso; simp_all; done)
 ·refine D4 (fun (i : Nat) => [.sl false false (L.map Slt.T), .sl false false (L.map Slt.T), .unk, .unk, .unk, .int .i64 i]) (fun (i : Nat) => i ≤ L.length) (fun (i : Nat) => L.length - i) 0 ?_ ?_ ?_
  ·exact Nat.zero_le _
  ·(repeat first | exact LE.nil _ | refine LE.unk _ _ ?_ | refine LE.eq _ _ _ rfl ?_)
  intro i hI ih
  refine A3 (st := []) ?_
  refine br ?_ ?_ <;> intro h4_3
  ·(refine C0 (D1 (by first | rfl | assumption | (exact B6 Slt.T Slt0 (by omega))) rfl ?_))
   (refine C0 (D1 (by first | rfl | assumption | (exact B6 Slt.T Slt0 (by omega))) rfl ?_))
   refine C5 (le162 (L.getD i Slt0) (hs i (by omega))) rfl rfl rfl ?_
   refine C1 ?_
   exact T5 (ih (i + 1) (by omega) (by omega)) (by (repeat first | exact LE.nil _ | refine LE.unk _ _ ?_ | refine LE.eq _ _ _ rfl ?_))
  ·first | exact C2 rfl rfl | contradiction | (exfalso; simp_all; done)
theorem lt28 (s : Rep) (hb : TBs 1048576 (Rep.T s)) : Pure En 28 [.agg (Rep.T s)] [.agg (Rep.T s)] := by
 obtain ⟨b0, b1, b2, b3⟩ := Rep.tb.1 hb
 refine Pure.of_ev (st := []) Tryz.func28 rfl kb ?_
 refine A2 ?_
 (apply est (u := .int _ _) j3; exact Q0; rfl; exact j2; rfl; rfl; exact kb; rfl)
 refine A2 ?_
 (apply est (u := .int _ _) j3; exact Q0; rfl; exact j2; rfl; rfl; exact kb; rfl)
 refine A2 ?_
 (apply est (u := .int _ _) j3; exact Q0; rfl; exact j2; rfl; rfl; exact kb; rfl)
 refine A2 ?_
 refine brB ?_ ?_ <;> intro h5_1
 ·(apply est (u := .bool _) j3; exact Q0; rfl; exact j2; rfl; rfl; exact kb; rfl)
  refine A2 ?_
  refine C5 (lt78 s.sl b0) rfl rfl rfl ?_
  (apply est (u := .sl _ _ _) j3; exact Q0; rfl; exact j2; rfl; rfl; exact kb; rfl)
  refine A2 ?_
  refine C5 (lt79 s.cs b1) rfl rfl rfl ?_
  (apply est (u := .sl _ _ _) j3; exact Q0; rfl; exact j2; rfl; rfl; exact kb; rfl)
  refine A2 ?_
  refine C5 (lt80 s.lg b2) rfl rfl rfl ?_
  (apply est (u := .sl _ _ _) j3; exact Q0; rfl; exact j2; rfl; rfl; exact kb; rfl)
  refine A2 ?_
  refine C5 (lt15 s.ch b3) rfl rfl rfl ?_
  (apply est (u := .sl _ _ _) j3; exact Q0; rfl; exact j2; rfl; rfl; exact kb; rfl)
  (apply D2 (vs := [.int _ _, .int _ _, .int _ _, .bool _, _, _, _, _]) j2; exact Q0; rfl; rfl; exact kb; rfl)
  (apply est (u := .agg [.int _ _, .int _ _, .int _ _, .bool _, _, _, _, _]) j3; exact Q0; rfl; exact j2; rfl; rfl; exact kb; rfl)
  refine D3 [] (A0 (A4 (xs := (Rep.T s).map (T.toV true)) rfl (by exact Q0) j2 kb (by simp only [Rep.T, ‹s.ac = _›] <;> rfl)) A1) ?_
  exact SnapL.cons _ _ _ _ (SnapC.agg (F1 _)) SnapL.nil
 ·(apply est (u := .bool _) j3; exact Q0; rfl; exact j2; rfl; rfl; exact kb; rfl)
  refine A2 ?_
  refine C5 (lt78 s.sl b0) rfl rfl rfl ?_
  (apply est (u := .sl _ _ _) j3; exact Q0; rfl; exact j2; rfl; rfl; exact kb; rfl)
  refine A2 ?_
  refine C5 (lt79 s.cs b1) rfl rfl rfl ?_
  (apply est (u := .sl _ _ _) j3; exact Q0; rfl; exact j2; rfl; rfl; exact kb; rfl)
  refine A2 ?_
  refine C5 (lt80 s.lg b2) rfl rfl rfl ?_
  (apply est (u := .sl _ _ _) j3; exact Q0; rfl; exact j2; rfl; rfl; exact kb; rfl)
  refine A2 ?_
  refine C5 (lt15 s.ch b3) rfl rfl rfl ?_
  (apply est (u := .sl _ _ _) j3; exact Q0; rfl; exact j2; rfl; rfl; exact kb; rfl)
  (apply D2 (vs := [.int _ _, .int _ _, .int _ _, .bool _, _, _, _, _]) j2; exact Q0; rfl; rfl; exact kb; rfl)
  (apply est (u := .agg [.int _ _, .int _ _, .int _ _, .bool _, _, _, _, _]) j3; exact Q0; rfl; exact j2; rfl; rfl; exact kb; rfl)
  refine D3 [] (A0 (A4 (xs := (Rep.T s).map (T.toV true)) rfl (by exact Q0) j2 kb (by simp only [Rep.T, ‹s.ac = _›] <;> rfl)) A1) ?_
  exact SnapL.cons _ _ _ _ (SnapC.agg (F1 _)) SnapL.nil
theorem lt95 (L : List Rep) (hb : TB 1048576 (.sl false (L.map Rep.T))) : Pure En 95 [.one (.sl false (L.map Rep.T))] [.one (.sl false (L.map Rep.T))] := by
 have hl : (L.map Rep.T).length = L.length := List.length_map ..
 obtain ⟨hm, hs⟩ := (B9 Rep.T Rep0).1 hb
 refine Pure.of_ev (st := []) Tryz.func95 rfl kb ?_
 refine emk (s' := 128) j6 kz ?_ ?_ ?_
 ·exact E7
 ·exact E7
 refine A9 (fun (i : Nat) => [.sl false false (L.map Rep.T), .unk, .unk, .view 0 0 (L.map Rep.T).length, .int .i64 i]) (fun (i : Nat) => hp [(0, ⟨mkG (vT Rep.T) [.int .i64 0, .int .i64 0, .int .i64 0, .bool false, .nsl, .nsl, .nsl, .nsl] L i, 8, 54⟩)]) (fun (i : Nat) => 1) (fun (i : Nat) => i ≤ L.length) (fun (i : Nat) => L.length - i) 0 ?_ ?_ ?_ ?_ ?_
 ·exact Nat.zero_le _
 ·(repeat first | exact LE.nil _ | refine LE.unk _ _ ?_ | refine LE.eq _ _ _ rfl ?_)
 ·(repeat first | exact A5 | (refine A6 ?_ ?_; (first | exact Q0 | ((simp (disch := omega) only [↓app0, ↓appC, ↓updS, ↓updN, ↓hpS, ↓hpN]); exact congrArg (fun z => some (Blk.mk z 8 54)) (by rw [I9, ← hl]; rfl)))))
 ·exact Nat.le_refl _
 intro i hI ih
 refine A3 (st := []) ?_
 refine br ?_ ?_ <;> intro h3_3
 ·(refine C0 (D1 (by first | rfl | assumption | (exact B6 Rep.T Rep0 (by omega))) rfl ?_))
  refine C5 (lt28 (L.getD i Rep0) (hs i (by omega))) rfl rfl rfl ?_
  (refine D7 (by exact Q0) ⟨rfl, C0 ?_⟩)
  (apply est j3; exact Q0; exact L6 (vT Rep.T) [.int .i64 0, .int .i64 0, .int .i64 0, .bool false, .nsl, .nsl, .nsl, .nsl] (by omega); exact j2; rfl; rfl; exact kb; rfl)
  refine C1 ?_
  exact C9 (ih (i + 1) (by omega) (by omega)) (by (repeat first | exact LE.nil _ | refine LE.unk _ _ ?_ | refine LE.eq _ _ _ rfl ?_)) (by (repeat first | exact A5 | (refine A6 ?_ ?_; ((simp (disch := omega) only [↓app0, ↓appC, ↓updS, ↓updN, ↓hpS, ↓hpN]); exact congrArg (fun z => some (Blk.mk z 8 54)) (L7 (vT Rep.T) [.int .i64 0, .int .i64 0, .int .i64 0, .bool false, .nsl, .nsl, .nsl, .nsl] Rep0 (by omega)))))) (Nat.le_refl _)
 ·obtain rfl : i = L.length := by omega
  refine D3 [0] rfl ?_
  exact SnapL.cons _ _ _ _ (.one _ _ (H9 (sz := 8) (ty := 54) (by simp) (by (simp (disch := omega) only [↓app0, ↓appC, ↓updS, ↓updN, ↓hpS, ↓hpN]); exact congrArg (fun z => some (Blk.mk z 8 54)) (J0 (vT Rep.T) [.int .i64 0, .int .i64 0, .int .i64 0, .bool false, .nsl, .nsl, .nsl, .nsl] L)) hl)) SnapL.nil
theorem le30 (s : Rep) (hb : TBs 1048576 (Rep.T s)) : Pure En 30 [.agg (Rep.T s), .agg (Rep.T s)] [.one (.bool true)] := by
 obtain ⟨b0, b1, b2, b3⟩ := Rep.tb.1 hb
 refine Pure.of_ev (st := []) Tryz.func30 rfl kb ?_
 refine A2 ?_
 refine A2 ?_
 refine br ?_ ?_ <;> intro h1_4
 ·first | exact C2 rfl rfl | contradiction | (exfalso; simp_all; done)
 ·refine A2 ?_
  refine A2 ?_
  refine br ?_ ?_ <;> intro h3_4
  ·first | exact C2 rfl rfl | contradiction | (exfalso; simp_all; done)
  ·refine A2 ?_
   refine A2 ?_
   refine br ?_ ?_ <;> intro h5_4
   ·first | exact C2 rfl rfl | contradiction | (exfalso; simp_all; done)
   ·refine A2 ?_
    refine brB ?_ ?_ <;> intro h7_1
    ·refine A2 ?_
     refine brB ?_ ?_ <;> intro h7_3
     ·refine A2 ?_
      refine A2 ?_
      refine C5 (le87 s.sl b0) rfl rfl rfl ?_
      refine A2 ?_
      refine A2 ?_
      refine C5 (le88 s.cs b1) rfl rfl rfl ?_
      refine A2 ?_
      refine A2 ?_
      refine C5 (le17 s.lg b2) rfl rfl rfl ?_
      refine A2 ?_
      refine A2 ?_
      refine C5 (le18 s.ch b3) rfl rfl rfl ?_
      first | exact C2 rfl rfl | contradiction | (exfalso; simp_all; done)
     ·first | exact C2 rfl rfl | contradiction | (exfalso; simp_all; done)
    ·refine A2 ?_
     refine brB ?_ ?_ <;> intro h7_3
     ·first | exact C2 rfl rfl | contradiction | (exfalso; simp_all; done)
     ·refine A2 ?_
      refine A2 ?_
      refine C5 (le87 s.sl b0) rfl rfl rfl ?_
      refine A2 ?_
      refine A2 ?_
      refine C5 (le88 s.cs b1) rfl rfl rfl ?_
      refine A2 ?_
      refine A2 ?_
      refine C5 (le17 s.lg b2) rfl rfl rfl ?_
      refine A2 ?_
      refine A2 ?_
      refine C5 (le18 s.ch b3) rfl rfl rfl ?_
      first | exact C2 rfl rfl | contradiction | (exfalso; simp_all; done)
theorem le101 (L : List Rep) (hb : TB 1048576 (.sl false (L.map Rep.T))) : Pure En 101 [.one (.sl false (L.map Rep.T)), .one (.sl false (L.map Rep.T))] [.one (.bool true)] := by
 have hl : (L.map Rep.T).length = L.length := List.length_map ..
 obtain ⟨hm, hs⟩ := (B9 Rep.T Rep0).1 hb
 refine Pure.of_ev (st := []) Tryz.func101 rfl kb ?_
 refine br ?_ ?_ <;> intro h1_4
 ·first | exact C2 rfl rfl | contradiction | (exfalso; simp_all; done)
 ·refine D4 (fun (i : Nat) => [.sl false false (L.map Rep.T), .sl false false (L.map Rep.T), .unk, .unk, .unk, .int .i64 i]) (fun (i : Nat) => i ≤ L.length) (fun (i : Nat) => L.length - i) 0 ?_ ?_ ?_
  ·exact Nat.zero_le _
  ·(repeat first | exact LE.nil _ | refine LE.unk _ _ ?_ | refine LE.eq _ _ _ rfl ?_)
  intro i hI ih
  refine A3 (st := []) ?_
  refine br ?_ ?_ <;> intro h4_3
  ·(refine C0 (D1 (by first | rfl | assumption | (exact B6 Rep.T Rep0 (by omega))) rfl ?_))
   (refine C0 (D1 (by first | rfl | assumption | (exact B6 Rep.T Rep0 (by omega))) rfl ?_))
   refine C5 (le30 (L.getD i Rep0) (hs i (by omega))) rfl rfl rfl ?_
   refine C1 ?_
   exact T5 (ih (i + 1) (by omega) (by omega)) (by (repeat first | exact LE.nil _ | refine LE.unk _ _ ?_ | refine LE.eq _ _ _ rfl ?_))
  ·first | exact C2 rfl rfl | contradiction | (exfalso; simp_all; done)
open Go Go.V
set_option linter.unusedVariables false
set_option linter.unusedSimpArgs false
set_option maxRecDepth 20000
set_option maxHeartbeats 4000000
structure Pc where
 to : Int
 ms : Msg
def Pc.T (s : Pc) : List V.T := .int .i64 s.to :: Msg.T s.ms ++ ([])
def Pc0 : Pc := ⟨0, Msg0⟩
def shPc : List Sh := .int .i64 :: shMsg ++ ([])
theorem shPc_inv {xs : List V.T} (h : Shs xs shPc) : ∃ s : Pc, xs = Pc.T s := by
 obtain ⟨_, _, rfl, g0, k0⟩ := C6 h; obtain ⟨a0, rfl⟩ := K7 g0
 obtain ⟨_, _, rfl, g1, k1⟩ := sh_app k0; obtain ⟨a1, rfl⟩ := I8 g1
 obtain rfl := O2 k1
 exact ⟨⟨a0, a1⟩, rfl⟩
theorem Pc.tb {B : Nat} {s : Pc} : TBs B (Pc.T s) ↔ TBs B (Msg.T s.ms) := by
 simp only [Pc.T, F0, O9, I4, O1, O0, J8, true_and, and_true]
structure Grp where
 nd : Int
 fa : List Int
 rs : List Rep
 wi : List Pc
 se : List Msg
def Grp.T (s : Grp) : List V.T := .int .i64 s.nd :: .sl false (s.fa.map iT) :: .sl false (s.rs.map Rep.T) :: .sl false (s.wi.map Pc.T) :: .sl false (s.se.map Msg.T) :: []
def Grp0 : Grp := ⟨0, [], [], [], []⟩
def shGrp : List Sh := .int .i64 :: .sl shInt :: .sl shRep :: .sl shPc :: .sl shMsg :: []
theorem shGrp_inv {xs : List V.T} (h : Shs xs shGrp) : ∃ s : Grp, xs = Grp.T s := by
 obtain ⟨_, _, rfl, g0, k0⟩ := C6 h; obtain ⟨a0, rfl⟩ := K7 g0
 obtain ⟨_, _, rfl, g1, k1⟩ := C6 k0; obtain ⟨a1, rfl⟩ := J1 (f := iT) g1 (fun _ h => shInt_inv h)
 obtain ⟨_, _, rfl, g2, k2⟩ := C6 k1; obtain ⟨a2, rfl⟩ := J1 (f := Rep.T) g2 (fun _ h => shRep_inv h)
 obtain ⟨_, _, rfl, g3, k3⟩ := C6 k2; obtain ⟨a3, rfl⟩ := J1 (f := Pc.T) g3 (fun _ h => shPc_inv h)
 obtain ⟨_, _, rfl, g4, k4⟩ := C6 k3; obtain ⟨a4, rfl⟩ := J1 (f := Msg.T) g4 (fun _ h => I8 h)
 obtain rfl := O2 k4
 exact ⟨⟨a0, a1, a2, a3, a4⟩, rfl⟩
theorem Grp.tb {B : Nat} {s : Grp} : TBs B (Grp.T s) ↔ TB B (.sl false (s.fa.map iT)) ∧ TB B (.sl false (s.rs.map Rep.T)) ∧ TB B (.sl false (s.wi.map Pc.T)) ∧ TB B (.sl false (s.se.map Msg.T)) := by
 simp only [Grp.T, F0, O9, I4, O1, O0, J8, true_and, and_true]
theorem lt94 (L : List Int) (hb : TB 1048576 (.sl false (L.map iT))) : Pure En 94 [.one (.sl false (L.map iT))] [.one (.sl false (L.map iT))] := by
 have hl : (L.map iT).length = L.length := List.length_map ..
 obtain ⟨hm, hs⟩ := (B9 iT (0 : Int)).1 hb
 refine Pure.of_ev (st := []) Tryz.func94 rfl kb ?_
 refine emk (s' := 8) j6 kz ?_ ?_ ?_
 ·exact E7
 ·exact E7
 refine A9 (fun (i : Nat) => [.sl false false (L.map iT), .unk, .unk, .view 0 0 (L.map iT).length, .int .i64 i]) (fun (i : Nat) => hp [(0, ⟨mkG (vT iT) [.int .i64 0] L i, 1, 3⟩)]) (fun (i : Nat) => 1) (fun (i : Nat) => i ≤ L.length) (fun (i : Nat) => L.length - i) 0 ?_ ?_ ?_ ?_ ?_
 ·exact Nat.zero_le _
 ·(repeat first | exact LE.nil _ | refine LE.unk _ _ ?_ | refine LE.eq _ _ _ rfl ?_)
 ·(repeat first | exact A5 | (refine A6 ?_ ?_; (first | exact Q0 | ((simp (disch := omega) only [↓app0, ↓appC, ↓updS, ↓updN, ↓hpS, ↓hpN]); exact congrArg (fun z => some (Blk.mk z 1 3)) (by rw [I9, ← hl]; rfl)))))
 ·exact Nat.le_refl _
 intro i hI ih
 refine A3 (st := []) ?_
 refine br ?_ ?_ <;> intro h3_3
 ·(refine C0 (D1 (by first | rfl | assumption | (exact B6 iT (0 : Int) (by omega))) rfl ?_))
  (refine D7 (by exact Q0) ⟨rfl, C0 ?_⟩)
  (apply est j3; exact Q0; exact L6 (vT iT) [.int .i64 0] (by omega); exact j2; rfl; rfl; exact kb; rfl)
  refine C1 ?_
  exact C9 (ih (i + 1) (by omega) (by omega)) (by (repeat first | exact LE.nil _ | refine LE.unk _ _ ?_ | refine LE.eq _ _ _ rfl ?_)) (by (repeat first | exact A5 | (refine A6 ?_ ?_; ((simp (disch := omega) only [↓app0, ↓appC, ↓updS, ↓updN, ↓hpS, ↓hpN]); exact congrArg (fun z => some (Blk.mk z 1 3)) (L7 (vT iT) [.int .i64 0] (0 : Int) (by omega)))))) (Nat.le_refl _)
 ·obtain rfl : i = L.length := by omega
  refine D3 [0] rfl ?_
  exact SnapL.cons _ _ _ _ (.one _ _ (H9 (sz := 1) (ty := 3) (by simp) (by (simp (disch := omega) only [↓app0, ↓appC, ↓updS, ↓updN, ↓hpS, ↓hpN]); exact congrArg (fun z => some (Blk.mk z 1 3)) (J0 (vT iT) [.int .i64 0] L)) hl)) SnapL.nil
theorem le100 (L : List Int) (hb : TB 1048576 (.sl false (L.map iT))) : Pure En 100 [.one (.sl false (L.map iT)), .one (.sl false (L.map iT))] [.one (.bool true)] := by
 have hl : (L.map iT).length = L.length := List.length_map ..
 obtain ⟨hm, hs⟩ := (B9 iT (0 : Int)).1 hb
 refine Pure.of_ev (st := []) Tryz.func100 rfl kb ?_
 refine br ?_ ?_ <;> intro h1_4
 ·first | exact C2 rfl rfl | contradiction | (exfalso; simp_all; done)
 ·refine D4 (fun (i : Nat) => [.sl false false (L.map iT), .sl false false (L.map iT), .unk, .unk, .unk, .int .i64 i]) (fun (i : Nat) => i ≤ L.length) (fun (i : Nat) => L.length - i) 0 ?_ ?_ ?_
  ·exact Nat.zero_le _
  ·(repeat first | exact LE.nil _ | refine LE.unk _ _ ?_ | refine LE.eq _ _ _ rfl ?_)
  intro i hI ih
  refine A3 (st := []) ?_
  refine br ?_ ?_ <;> intro h4_3
  ·(refine C0 (D1 (by first | rfl | assumption | (exact B6 iT (0 : Int) (by omega))) rfl ?_))
   (refine C0 (D1 (by first | rfl | assumption | (exact B6 iT (0 : Int) (by omega))) rfl ?_))
   refine br ?_ ?_ <;> intro h6_8
   ·first | exact C2 rfl rfl | contradiction | (exfalso; simp_all; done)
   ·refine C1 ?_
    exact T5 (ih (i + 1) (by omega) (by omega)) (by (repeat first | exact LE.nil _ | refine LE.unk _ _ ?_ | refine LE.eq _ _ _ rfl ?_))
  ·first | exact C2 rfl rfl | contradiction | (exfalso; simp_all; done)
theorem lt168 (s : Pc) (hb : TBs 1048576 (Pc.T s)) : Pure En 168 [.agg (Pc.T s)] [.agg (Pc.T s)] := by
 have b0 := Pc.tb.1 hb
 refine Pure.of_ev (st := []) Tryz.func168 rfl kb ?_
 refine A2 ?_
 (apply est (u := .int _ _) j3; exact Q0; rfl; exact j2; rfl; rfl; exact kb; rfl)
 (apply D2 (vs := [.int _ _, .int _ _, .int _ _, .int _ _, .str _, .str _, .str _]) j2; exact Q0; rfl; rfl; exact kb; rfl)
 refine C5 (lt61 s.ms b0) rfl rfl rfl ?_
 (apply est (u := .agg [.int _ _, .int _ _, .int _ _, .int _ _, .str _, .str _, .str _]) j3; exact Q0; rfl; exact j2; rfl; rfl; exact kb; rfl)
 (apply D2 (vs := [.int _ _, .int _ _, .int _ _, .int _ _, .int _ _, .str _, .str _, .str _]) j2; exact Q0; rfl; rfl; exact kb; rfl)
 (apply est (u := .agg [.int _ _, .int _ _, .int _ _, .int _ _, .int _ _, .str _, .str _, .str _]) j3; exact Q0; rfl; exact j2; rfl; rfl; exact kb; rfl)
 refine D3 [] (A0 (A4 (xs := (Pc.T s).map (T.toV true)) rfl (by exact Q0) j2 kb rfl) A1) ?_
 exact SnapL.cons _ _ _ _ (SnapC.agg (F1 _)) SnapL.nil
theorem lt96 (L : List Pc) (hb : TB 1048576 (.sl false (L.map Pc.T))) : Pure En 96 [.one (.sl false (L.map Pc.T))] [.one (.sl false (L.map Pc.T))] := by
 have hl : (L.map Pc.T).length = L.length := List.length_map ..
 obtain ⟨hm, hs⟩ := (B9 Pc.T Pc0).1 hb
 refine Pure.of_ev (st := []) Tryz.func96 rfl kb ?_
 refine emk (s' := 88) j6 kz ?_ ?_ ?_
 ·exact E7
 ·exact E7
 refine A9 (fun (i : Nat) => [.sl false false (L.map Pc.T), .unk, .unk, .view 0 0 (L.map Pc.T).length, .int .i64 i]) (fun (i : Nat) => hp [(0, ⟨mkG (vT Pc.T) [.int .i64 0, .int .i64 0, .int .i64 0, .int .i64 0, .int .i64 0, .str ⟨#[]⟩, .str ⟨#[]⟩, .str ⟨#[]⟩] L i, 8, 130⟩)]) (fun (i : Nat) => 1) (fun (i : Nat) => i ≤ L.length) (fun (i : Nat) => L.length - i) 0 ?_ ?_ ?_ ?_ ?_
 ·exact Nat.zero_le _
 ·(repeat first | exact LE.nil _ | refine LE.unk _ _ ?_ | refine LE.eq _ _ _ rfl ?_)
 ·(repeat first | exact A5 | (refine A6 ?_ ?_; (first | exact Q0 | ((simp (disch := omega) only [↓app0, ↓appC, ↓updS, ↓updN, ↓hpS, ↓hpN]); exact congrArg (fun z => some (Blk.mk z 8 130)) (by rw [I9, ← hl]; rfl)))))
 ·exact Nat.le_refl _
 intro i hI ih
 refine A3 (st := []) ?_
 refine br ?_ ?_ <;> intro h3_3
 ·(refine C0 (D1 (by first | rfl | assumption | (exact B6 Pc.T Pc0 (by omega))) rfl ?_))
  refine C5 (lt168 (L.getD i Pc0) (hs i (by omega))) rfl rfl rfl ?_
  (refine D7 (by exact Q0) ⟨rfl, C0 ?_⟩)
  (apply est j3; exact Q0; exact L6 (vT Pc.T) [.int .i64 0, .int .i64 0, .int .i64 0, .int .i64 0, .int .i64 0, .str ⟨#[]⟩, .str ⟨#[]⟩, .str ⟨#[]⟩] (by omega); exact j2; rfl; rfl; exact kb; rfl)
  refine C1 ?_
  exact C9 (ih (i + 1) (by omega) (by omega)) (by (repeat first | exact LE.nil _ | refine LE.unk _ _ ?_ | refine LE.eq _ _ _ rfl ?_)) (by (repeat first | exact A5 | (refine A6 ?_ ?_; ((simp (disch := omega) only [↓app0, ↓appC, ↓updS, ↓updN, ↓hpS, ↓hpN]); exact congrArg (fun z => some (Blk.mk z 8 130)) (L7 (vT Pc.T) [.int .i64 0, .int .i64 0, .int .i64 0, .int .i64 0, .int .i64 0, .str ⟨#[]⟩, .str ⟨#[]⟩, .str ⟨#[]⟩] Pc0 (by omega)))))) (Nat.le_refl _)
 ·obtain rfl : i = L.length := by omega
  refine D3 [0] rfl ?_
  exact SnapL.cons _ _ _ _ (.one _ _ (H9 (sz := 8) (ty := 130) (by simp) (by (simp (disch := omega) only [↓app0, ↓appC, ↓updS, ↓updN, ↓hpS, ↓hpN]); exact congrArg (fun z => some (Blk.mk z 8 130)) (J0 (vT Pc.T) [.int .i64 0, .int .i64 0, .int .i64 0, .int .i64 0, .int .i64 0, .str ⟨#[]⟩, .str ⟨#[]⟩, .str ⟨#[]⟩] L)) hl)) SnapL.nil
theorem le171 (s : Pc) (hb : TBs 1048576 (Pc.T s)) : Pure En 171 [.agg (Pc.T s), .agg (Pc.T s)] [.one (.bool true)] := by
 have b0 := Pc.tb.1 hb
 refine Pure.of_ev (st := []) Tryz.func171 rfl kb ?_
 refine A2 ?_
 refine A2 ?_
 refine br ?_ ?_ <;> intro h1_4
 ·first | exact C2 rfl rfl | contradiction | (exfalso; simp_all; done)
 ·(apply D2 (vs := [.int _ _, .int _ _, .int _ _, .int _ _, .str _, .str _, .str _]) j2; exact Q0; rfl; rfl; exact kb; rfl)
  (apply D2 (vs := [.int _ _, .int _ _, .int _ _, .int _ _, .str _, .str _, .str _]) j2; exact Q0; rfl; rfl; exact kb; rfl)
  refine C5 (le66 s.ms b0) rfl rfl rfl ?_
  first | exact C2 rfl rfl | contradiction | (exfalso; simp_all; done)
theorem le102 (L : List Pc) (hb : TB 1048576 (.sl false (L.map Pc.T))) : Pure En 102 [.one (.sl false (L.map Pc.T)), .one (.sl false (L.map Pc.T))] [.one (.bool true)] := by
 have hl : (L.map Pc.T).length = L.length := List.length_map ..
 obtain ⟨hm, hs⟩ := (B9 Pc.T Pc0).1 hb
 refine Pure.of_ev (st := []) Tryz.func102 rfl kb ?_
 refine br ?_ ?_ <;> intro h1_4
 ·first | exact C2 rfl rfl | contradiction | (exfalso; simp_all; done)
 ·refine D4 (fun (i : Nat) => [.sl false false (L.map Pc.T), .sl false false (L.map Pc.T), .unk, .unk, .unk, .int .i64 i]) (fun (i : Nat) => i ≤ L.length) (fun (i : Nat) => L.length - i) 0 ?_ ?_ ?_
  ·exact Nat.zero_le _
  ·(repeat first | exact LE.nil _ | refine LE.unk _ _ ?_ | refine LE.eq _ _ _ rfl ?_)
  intro i hI ih
  refine A3 (st := []) ?_
  refine br ?_ ?_ <;> intro h4_3
  ·(refine C0 (D1 (by first | rfl | assumption | (exact B6 Pc.T Pc0 (by omega))) rfl ?_))
   (refine C0 (D1 (by first | rfl | assumption | (exact B6 Pc.T Pc0 (by omega))) rfl ?_))
   refine C5 (le171 (L.getD i Pc0) (hs i (by omega))) rfl rfl rfl ?_
   refine C1 ?_
   exact T5 (ih (i + 1) (by omega) (by omega)) (by (repeat first | exact LE.nil _ | refine LE.unk _ _ ?_ | refine LE.eq _ _ _ rfl ?_))
  ·first | exact C2 rfl rfl | contradiction | (exfalso; simp_all; done)
theorem lt33 (s : Grp) (hb : TBs 1048576 (Grp.T s)) : Pure En 33 [.agg (Grp.T s)] [.agg (Grp.T s)] := by
 obtain ⟨b0, b1, b2, b3⟩ := Grp.tb.1 hb
 refine Pure.of_ev (st := []) Tryz.func33 rfl kb ?_
 refine A2 ?_
 (apply est (u := .int _ _) j3; exact Q0; rfl; exact j2; rfl; rfl; exact kb; rfl)
 refine A2 ?_
 refine C5 (lt94 s.fa b0) rfl rfl rfl ?_
 (apply est (u := .sl _ _ _) j3; exact Q0; rfl; exact j2; rfl; rfl; exact kb; rfl)
 refine A2 ?_
 refine C5 (lt95 s.rs b1) rfl rfl rfl ?_
 (apply est (u := .sl _ _ _) j3; exact Q0; rfl; exact j2; rfl; rfl; exact kb; rfl)
 refine A2 ?_
 refine C5 (lt96 s.wi b2) rfl rfl rfl ?_
 (apply est (u := .sl _ _ _) j3; exact Q0; rfl; exact j2; rfl; rfl; exact kb; rfl)
 refine A2 ?_
 refine C5 (lt15 s.se b3) rfl rfl rfl ?_
 (apply est (u := .sl _ _ _) j3; exact Q0; rfl; exact j2; rfl; rfl; exact kb; rfl)
 (apply D2 (vs := [.int _ _, _, _, _, _]) j2; exact Q0; rfl; rfl; exact kb; rfl)
 (apply est (u := .agg [.int _ _, _, _, _, _]) j3; exact Q0; rfl; exact j2; rfl; rfl; exact kb; rfl)
 refine D3 [] (A0 (A4 (xs := (Grp.T s).map (T.toV true)) rfl (by exact Q0) j2 kb rfl) A1) ?_
 exact SnapL.cons _ _ _ _ (SnapC.agg (F1 _)) SnapL.nil
theorem le35 (s : Grp) (hb : TBs 1048576 (Grp.T s)) : Pure En 35 [.agg (Grp.T s), .agg (Grp.T s)] [.one (.bool true)] := by
 obtain ⟨b0, b1, b2, b3⟩ := Grp.tb.1 hb
 refine Pure.of_ev (st := []) Tryz.func35 rfl kb ?_
 refine A2 ?_
 refine A2 ?_
 refine br ?_ ?_ <;> intro h1_4
 ·first | exact C2 rfl rfl | contradiction | (exfalso; simp_all; done)
 ·refine A2 ?_
  refine A2 ?_
  refine C5 (le100 s.fa b0) rfl rfl rfl ?_
  refine A2 ?_
  refine A2 ?_
  refine C5 (le101 s.rs b1) rfl rfl rfl ?_
  refine A2 ?_
  refine A2 ?_
  refine C5 (le102 s.wi b2) rfl rfl rfl ?_
  refine A2 ?_
  refine A2 ?_
  refine C5 (le18 s.se b3) rfl rfl rfl ?_
  first | exact C2 rfl rfl | contradiction | (exfalso; simp_all; done)
end Go.Proofs.YteifdelnahccjaaGreatDoor
