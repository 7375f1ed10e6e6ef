import Derived.Test.YteifdelnahccjaaGreatDoorF10
namespace Go.Proofs.YteifdelnahccjaaGreatDoor
open Go Go.V
set_option linter.unusedVariables false
set_option linter.unusedSimpArgs false
set_option maxRecDepth 20000
inductive Kd where
 | flat
 | sl (ty : TypeId) (ks : List Kd)
mutual
inductive Own (h : Heap) : Kd → List Nat → V → T → Prop
 | bool (b : Bool) : Own h .flat [] (.bool b) (.bool b)
 | int (k : IntKind) (n : Int) : Own h .flat [] (.int k n) (.int k n)
 | str (s : ByteArray) : Own h .flat [] (.str s) (.str s)
 | nil (ty : TypeId) (ks : List Kd) : Own h (.sl ty ks) [] .nsl (.sl false [])
 | view (ty : TypeId) (ks : List Kd) (id len : Nat) (R : List (List V)) (S : List Nat) (es : List (List T)) (hb : h id = some ⟨R, ks.length, ty⟩) (hl : es.length = len) (hle : len ≤ R.length) (hr : OwnRs h ks S (R.take len) es) : Own h (.sl ty ks) (id :: S) (.view id 0 len) (.sl false es)
inductive OwnRs (h : Heap) : List Kd → List Nat → List (List V) → List (List T) → Prop
 | nil (ks : List Kd) : OwnRs h ks [] [] []
 | cons (ks : List Kd) (S1 S2 : List Nat) (r : List V) (e : List T) (rs : List (List V)) (es : List (List T)) (h1 : OwnR h ks S1 r e) (h2 : OwnRs h ks S2 rs es) : OwnRs h ks (S1 ++ S2) (r :: rs) (e :: es)
inductive OwnR (h : Heap) : List Kd → List Nat → List V → List T → Prop
 | nil : OwnR h [] [] [] []
 | cons (k : Kd) (ks : List Kd) (S1 S2 : List Nat) (x : V) (y : T) (xs : List V) (ys : List T) (h1 : Own h k S1 x y) (h2 : OwnR h ks S2 xs ys) : OwnR h (k :: ks) (S1 ++ S2) (x :: xs) (y :: ys)
end
mutual
theorem Own.congr {h h' : Heap} : ∀ {k : Kd} {S : List Nat} {v : V} {t : T}, Own h k S v t → (∀ id ∈ S, h' id = h id) → Own h' k S v t
 | _, _, _, _, .bool b, _ => .bool b
 | _, _, _, _, .int k n, _ => .int k n
 | _, _, _, _, .str s, _ => .str s
 | _, _, _, _, .nil ty ks, _ => .nil ty ks
 | _, _, _, _, .view ty ks id len R S es hb hl hle hr, e => .view ty ks id len R S es ((e id List.mem_cons_self).trans hb) hl hle (hr.congr fun i hi => e i (List.mem_cons_of_mem _ hi))
theorem OwnRs.congr {h h' : Heap} : ∀ {ks : List Kd} {S : List Nat} {rs : List (List V)} {es : List (List T)}, OwnRs h ks S rs es → (∀ id ∈ S, h' id = h id) → OwnRs h' ks S rs es
 | _, _, _, _, .nil ks, _ => .nil ks
 | _, _, _, _, .cons ks S1 S2 r e rs es h1 h2, k => .cons ks S1 S2 r e rs es (h1.congr fun i hi => k i (List.mem_append_left _ hi)) (h2.congr fun i hi => k i (List.mem_append_right _ hi))
theorem OwnR.congr {h h' : Heap} : ∀ {ks : List Kd} {S : List Nat} {xs : List V} {ys : List T}, OwnR h ks S xs ys → (∀ id ∈ S, h' id = h id) → OwnR h' ks S xs ys
 | _, _, _, _, .nil, _ => .nil
 | _, _, _, _, .cons q ks S1 S2 x y xs ys h1 h2, k => .cons q ks S1 S2 x y xs ys (h1.congr fun i hi => k i (List.mem_append_left _ hi)) (h2.congr fun i hi => k i (List.mem_append_right _ hi))
end
mutual
theorem Own.snap {h : Heap} {ids : List Nat} {q : Bool} : ∀ {k : Kd} {S : List Nat} {v : V} {t : T}, Own h k S v t → (∀ id ∈ S, id ∈ ids) → Snap h ids q v t
 | _, _, _, _, .bool b, _ => .bool b
 | _, _, _, _, .int k n, _ => .int k n
 | _, _, _, _, .str s, _ => .str s
 | _, _, _, _, .nil _ _, _ => .nslW
 | _, _, _, _, .view ty ks id len R S es hb hl hle hr, e => by
  obtain ⟨h1, h2⟩ := hr.snap (ids := ids) (q := q) fun i hi => e i (List.mem_cons_of_mem _ hi)
  refine .weak _ _ (.view id 0 len _ es (e id List.mem_cons_self) hb (by simp only [Nat.zero_add]; exact hle) hl (fun i r k hr' hk => ?_) (fun i j x y hx hy => ?_))
  ·rw [List.drop_zero] at hr'
   exact (h2 i r k hr' hk).1
  ·rw [List.drop_zero] at hx
   unfold get2 at hx hy
   cases e1 : (R.take len)[i]? with
   | none => rw [show (Blk.mk R ks.length ty).es = R from rfl, e1] at hx; cases hx
   | some r =>
    cases e2 : es[i]? with
    | none => rw [e2] at hy; cases hy
    | some k =>
     rw [show (Blk.mk R ks.length ty).es = R from rfl, e1] at hx; rw [e2] at hy
     exact (h2 i r k e1 e2).2 j x y hx hy
theorem OwnRs.snap {h : Heap} {ids : List Nat} {q : Bool} : ∀ {ks : List Kd} {S : List Nat} {rs : List (List V)} {es : List (List T)}, OwnRs h ks S rs es → (∀ id ∈ S, id ∈ ids) →
  rs.length = es.length ∧ ∀ (i : Nat) (r : List V) (k : List T), rs[i]? = some r → es[i]? = some k → r.length = k.length ∧ ∀ (j : Nat) (x : V) (y : T), r[j]? = some x → k[j]? = some y → Snap h ids q x y
 | _, _, _, _, .nil _, _ => ⟨rfl, fun i r k hr => by simp at hr⟩
 | _, _, _, _, .cons ks S1 S2 r e rs es h1 h2, k => by
  have a := h1.snap (ids := ids) (q := q) fun i hi => k i (List.mem_append_left _ hi)
  obtain ⟨b1, b2⟩ := h2.snap (ids := ids) (q := q) fun i hi => k i (List.mem_append_right _ hi)
  refine ⟨by simp [b1], fun i r' k' hr hk => ?_⟩
  cases i with
  | zero =>
   simp only [List.getElem?_cons_zero, Option.some.injEq] at hr hk
   subst hr; subst hk; exact a
  | succ i => exact b2 i r' k' (by simpa using hr) (by simpa using hk)
theorem OwnR.snap {h : Heap} {ids : List Nat} {q : Bool} : ∀ {ks : List Kd} {S : List Nat} {xs : List V} {ys : List T}, OwnR h ks S xs ys → (∀ id ∈ S, id ∈ ids) →
  xs.length = ys.length ∧ ∀ (j : Nat) (x : V) (y : T), xs[j]? = some x → ys[j]? = some y → Snap h ids q x y
 | _, _, _, _, .nil, _ => ⟨rfl, fun j x y hx => by simp at hx⟩
 | _, _, _, _, .cons _ ks S1 S2 x y xs ys h1 h2, k => by
  have a := h1.snap (ids := ids) (q := q) fun i hi => k i (List.mem_append_left _ hi)
  obtain ⟨b1, b2⟩ := h2.snap (ids := ids) (q := q) fun i hi => k i (List.mem_append_right _ hi)
  refine ⟨by simp [b1], fun j u v hu hv => ?_⟩
  cases j with
  | zero =>
   simp only [List.getElem?_cons_zero, Option.some.injEq] at hu hv
   subst hu; subst hv; exact a
  | succ j => exact b2 j u v (by simpa using hu) (by simpa using hv)
end
theorem OwnRs.len {h : Heap} {ks : List Kd} {S : List Nat} {rs : List (List V)} {es : List (List T)} (o : OwnRs h ks S rs es) : rs.length = es.length := (o.snap (ids := S) (q := false) fun _ hi => hi).1
theorem OwnR.len {h : Heap} {ks : List Kd} {S : List Nat} {xs : List V} {ys : List T} (o : OwnR h ks S xs ys) : xs.length = ys.length := (o.snap (ids := S) (q := false) fun _ hi => hi).1
theorem OwnRs.focus {h : Heap} : ∀ {ks : List Kd} {S : List Nat} {rs : List (List V)} {es : List (List T)}, OwnRs h ks S rs es → ∀ (i : Nat), i < rs.length →
  ∃ S1 Si S2, S = S1 ++ (Si ++ S2) ∧ OwnR h ks Si (rs.getD i []) (es.getD i []) ∧
   ∀ (h' : Heap) (Si' : List Nat) (r' : List V) (e' : List T), (∀ id, id ∈ S1 ∨ id ∈ S2 → h' id = h id) → OwnR h' ks Si' r' e' → OwnRs h' ks (S1 ++ (Si' ++ S2)) (rs.set i r') (es.set i e')
 | _, _, _, _, .nil _, i, hi => absurd hi (Nat.not_lt_zero i)
 | _, _, _, _, .cons ks S1 S2 r e rs es h1 h2, 0, _ => ⟨[], S1, S2, rfl, h1, fun h' Si' r' e' k q => .cons ks Si' S2 r' e' rs es q (h2.congr fun i hi => k i (.inr hi))⟩
 | _, _, _, _, .cons ks S1 S2 r e rs es h1 h2, i + 1, hi => by
  obtain ⟨A, B, C, e1, e2, e3⟩ := h2.focus i (Nat.lt_of_succ_lt_succ hi)
  refine ⟨S1 ++ A, B, C, by rw [e1, List.append_assoc], by simpa using e2, fun h' Si' r' e' k q => ?_⟩
  rw [List.append_assoc]
  exact .cons ks S1 _ r e _ _ (h1.congr fun i hi => k i (.inl (List.mem_append_left _ hi))) (e3 h' Si' r' e' (fun i hi => k i (hi.imp (fun x => List.mem_append_right _ x) (fun x => x))) q)
theorem Own.at {α : Type} {f : α → List T} (d : α) {h : Heap} {ty : TypeId} {ks : List Kd} {S : List Nat} {id len : Nat} {L : List α} (o : Own h (.sl ty ks) S (.view id 0 len) (.sl false (L.map f))) {i : Nat} (hi : i < L.length) :
  ∃ R S1 Si S2 r, h id = some ⟨R, ks.length, ty⟩ ∧ S = id :: (S1 ++ (Si ++ S2)) ∧ len ≤ R.length ∧ R[i]? = some r ∧ OwnR h ks Si r (f (L.getD i d)) ∧
   ∀ (h' : Heap) (Si' : List Nat) (r' : List V) (a' : α), h' id = some ⟨R.set i r', ks.length, ty⟩ → (∀ j, j ∈ S1 ∨ j ∈ S2 → h' j = h j) → OwnR h' ks Si' r' (f a') →
    Own h' (.sl ty ks) (id :: (S1 ++ (Si' ++ S2))) (.view id 0 len) (.sl false ((L.set i a').map f)) := by
 cases o with
 | view _ _ _ _ R S es hb hl hle hr =>
  rw [List.length_map] at hl
  have hlt : i < (R.take len).length := by rw [List.length_take]; omega
  obtain ⟨S1, Si, S2, e1, e2, e3⟩ := hr.focus i hlt
  have g1 : (R.take len).getD i [] = R[i]'(by omega) := by simp [List.getElem?_take, show i < len by omega, show i < R.length by omega]
  have g2 : (L.map f).getD i [] = f (L.getD i d) := by simp [hi]
  rw [g1, g2] at e2
  refine ⟨R, S1, Si, S2, _, hb, by rw [e1], hle, by simp [show i < R.length by omega], e2, fun h' Si' r' a' q1 q3 q4 => ?_⟩
  refine .view ty ks id len _ _ _ q1 (by simp [hl]) (by rw [List.length_set]; exact hle) ?_
  rw [List.map_set, List.take_set]
  exact e3 h' Si' r' (f a') q3 q4
def slv : V → Bool
 | .nsl => true
 | .view _ _ _ => true
 | _ => false
theorem Own.slv {h : Heap} {ty : TypeId} {ks : List Kd} {S : List Nat} {v : V} {t : T} (o : Own h (.sl ty ks) S v t) : slv v = true := by cases o <;> rfl
theorem OwnR.int {h : Heap} {ks : List Kd} {S : List Nat} {k : IntKind} {n : Int} {xs : List V} {ys : List T} (o : OwnR h ks S xs ys) : OwnR h (.flat :: ks) S (.int k n :: xs) (.int k n :: ys) := .cons _ _ [] S _ _ _ _ (.int k n) o
theorem OwnR.bool {h : Heap} {ks : List Kd} {S : List Nat} {b : Bool} {xs : List V} {ys : List T} (o : OwnR h ks S xs ys) : OwnR h (.flat :: ks) S (.bool b :: xs) (.bool b :: ys) := .cons _ _ [] S _ _ _ _ (.bool b) o
theorem OwnR.str {h : Heap} {ks : List Kd} {S : List Nat} {s : ByteArray} {xs : List V} {ys : List T} (o : OwnR h ks S xs ys) : OwnR h (.flat :: ks) S (.str s :: xs) (.str s :: ys) := .cons _ _ [] S _ _ _ _ (.str s) o
theorem OwnR.nsl {h : Heap} {ty : TypeId} {k0 ks : List Kd} {S : List Nat} {xs : List V} {ys : List T} (o : OwnR h ks S xs ys) : OwnR h (.sl ty k0 :: ks) S (.nsl :: xs) (.sl false [] :: ys) := .cons _ _ [] S _ _ _ _ (.nil ty k0) o
theorem eopO {E : Env} {o : Oper} {t : Nat → V} {h : Heap} {n : Nat} {K : EK} {z : Operand} {tys : Array TypeId} {f : FuncId} {args : Array Operand} {caps vs : List V} {Φ : V → Heap → Nat → Prop} (hop : OpenM E f vs h n Φ) (ho : o.op = .call { callee := .value z, args := args, argTypes := tys }) (G0 : E.eval t z = .clo f caps ∧ args.toList.map (E.eval t) ++ caps = vs)
  (w : ∀ (v : V) (wr : List (Nat × Option Blk)) (m : Nat), Φ v (app wr h) m → n ≤ m → gotR v fun v => K v [] true (some wr) m) : Eff E o t h n K := by
 obtain ⟨hc, hv⟩ := G0
 obtain ⟨a, h1, h2⟩ := hop
 exact N3 h2 ho hc hv (w a.1 a.2.1 a.2.2 h1 h2.le)
def ctL {α : Type} (ct : α → Nat) : List α → Nat
 | [] => 0
 | a :: L => ct a + ctL ct L
def mkL {α : Type} (mk : Int → α → α) (ct : α → Nat) : Int → List α → List α
 | _, [] => []
 | k, a :: L => mk k a :: mkL mk ct (k + (ct a : Int)) L
def mb (k : Int) : Bool := decide (k.tmod 3 = 0)
theorem mix_set' {α : Type} (d : α) {A L : List α} {i : Nat} (h : A.length = L.length) (hi : i < L.length) : (mix A L i).set i (A.getD i d) = mix A L (i + 1) := by
 have e1 : (A.take i).length = i := by simp; omega
 have e2 : L.drop i = L.getD i d :: L.drop (i + 1) := by
  rw [List.getD_eq_getElem?_getD, List.getElem?_eq_getElem hi, Option.getD_some, List.drop_eq_getElem_cons hi]
 have e3 : A.take (i + 1) = A.take i ++ [A.getD i d] := by
  rw [List.take_add_one]; simp [show i < A.length by omega]
 unfold mix
 rw [e2, List.set_append_right _ _ (by omega), e1, Nat.sub_self, e3, List.set_cons_zero, List.append_assoc]
 rfl
theorem nin {S A B : List Nat} {j : Nat} (h : S.Nodup) (hA : j ∈ A) (hB : j ∈ B) (hc : A.count j + B.count j ≤ S.count j) : False := by
 have a1 := List.nodup_iff_count.1 h j
 have a2 := List.count_pos_iff.2 hA
 have a3 := List.count_pos_iff.2 hB
 omega
theorem ndApp {A B : List Nat} {b : Nat} (h1 : A.Nodup) (h2 : B.Nodup) (r1 : ∀ j ∈ A, j < b) (r2 : ∀ j ∈ B, b ≤ j) : (A ++ B).Nodup := List.nodup_append.2 ⟨h1, h2, fun a ha c hc e => by have := r1 a ha; have := r2 c hc; omega⟩
theorem Own.cell {h : Heap} {k : Kd} {S : List Nat} {x : V} {y : T} (o : Own h k S x y) : x.cell = true := by cases o <;> rfl
theorem OwnR.cell {h : Heap} : ∀ {ks : List Kd} {S : List Nat} {xs : List V} {ys : List T}, OwnR h ks S xs ys → xs.all V.cell = true
 | _, _, _, _, .nil => rfl
 | _, _, _, _, .cons _ _ _ _ x _ xs _ h1 h2 => by rw [List.all_cons, h1.cell, h2.cell]; rfl
theorem lkS {i j : Nat} {b x : Option Blk} {h : Heap} (e : j = i) (hx : b = x) : app [(i, b)] h j = x := by subst e; subst hx; exact upd_same _ _ _
theorem lkN {i j : Nat} {b x : Option Blk} {h : Heap} (e : ¬ j = i) (hx : h j = x) : app [(i, b)] h j = x := (upd_ne _ _ e).trans hx
def Fr (h : Heap) (n : Nat) (S : List Nat) (g : Heap) : Prop := ∀ j, j < n → j ∉ S → g j = h j
theorem Fr.refl (h : Heap) (n : Nat) (S : List Nat) : Fr h n S h := fun _ _ _ => rfl
structure MK where
 i : Nat
 y : Int
 m : Nat
 g : Heap
structure MkI {α : Type} (f : α → List T) (mk : Int → α → α) (ct : α → Nat) (ty : TypeId) (ks : List Kd) (L : List α) (k : Int) (S : List Nat) (v : V) (h : Heap) (n : Nat) (a : MK) : Prop where
 il : a.i ≤ L.length
 yk : a.y = k + (ctL ct (L.take a.i) : Int)
 ow : Own a.g (.sl ty ks) S v (.sl false ((mix (mkL mk ct k L) L a.i).map f))
 fr : Fr h n S a.g
 nm : n ≤ a.m
 ch : Ch h a.g
structure TO where
 i : Nat
 S : List Nat
 m : Nat
 g : Heap
structure ToI {α : Type} (f : α → List T) (d : α) (ty : TypeId) (ks : List Kd) (L : List α) (id len : Nat) (h : Heap) (n : Nat) (a : TO) : Prop where
 il : a.i ≤ L.length
 ow : Own a.g (.sl ty ks) (id :: a.S) (.view id 0 len) (.sl false ((mix L (List.replicate L.length d) a.i).map f))
 nd : (id :: a.S).Nodup
 rg : ∀ j ∈ id :: a.S, n ≤ j ∧ j < a.m
 fr : ∀ j, j < n → a.g j = h j
 nm : n ≤ a.m
 ch : Ch h a.g
structure New (h : Heap) (n : Nat) (S : List Nat) (g : Heap) (m : Nat) : Prop where
 nd : S.Nodup
 rg : ∀ j ∈ S, n ≤ j ∧ j < m
 fr : ∀ j, j < n → g j = h j
theorem ndIns {id : Nat} {A B C D : List Nat} {m : Nat} (h : (id :: (A ++ (B ++ C))).Nodup) (r : ∀ j ∈ id :: (A ++ (B ++ C)), j < m) (hd : D.Nodup) (hr : ∀ j ∈ D, m ≤ j) : (id :: (A ++ (D ++ C))).Nodup := by
 refine List.nodup_iff_count.2 fun j => ?_
 have a1 := List.nodup_iff_count.1 h j
 have a2 := List.nodup_iff_count.1 hd j
 simp only [List.count_cons, List.count_append] at a1 ⊢
 rcases Nat.lt_or_ge j m with q | q
 ·have : D.count j = 0 := List.count_eq_zero.2 fun q2 => by have := hr j q2; omega
  omega
 ·have e0 : (id :: (A ++ (B ++ C))).count j = 0 := List.count_eq_zero.2 fun q2 => by have := r j q2; omega
  simp only [List.count_cons, List.count_append] at e0
  omega
theorem ToI.step {α : Type} {f : α → List T} {d : α} {ty : TypeId} {ks : List Kd} {L : List α} {id len : Nat} {h : Heap} {n : Nat} {a : TO} (hI : ToI f d ty ks L id len h n a) (hi : a.i < L.length) :
  ∃ R r, a.g id = some ⟨R, ks.length, ty⟩ ∧ R[0 + a.i]? = some r ∧ (∃ e, r.length = (f e).length) ∧
   ∀ (g1 : Heap) (m1 : Nat) (S3 : List Nat) (c : List V) (GG : Heap), OwnR g1 ks S3 c (f (L.getD a.i d)) → New a.g a.m S3 g1 m1 → a.m ≤ m1 → Ch a.g g1 → GG = upd g1 id (some ⟨R.set (0 + a.i) c, ks.length, ty⟩) →
    ∃ S', ToI f d ty ks L id len h n ⟨a.i + 1, S', m1, GG⟩ := by
 have hrl : L.length = (List.replicate L.length d).length := by simp
 have hml := mix_len (A := L) (L := List.replicate L.length d) (i := a.i) hrl (by simp; exact hI.il)
 rw [List.length_replicate] at hml
 obtain ⟨R, S1, Si, S2, r, hb, hS, hle, hr, hor, hback⟩ := hI.ow.at d (i := a.i) (by rw [hml]; exact hi)
 refine ⟨R, r, hb, by rw [Nat.zero_add]; exact hr, ⟨_, hor.len⟩, fun g1 m1 S3 c GG oc hN hm hc hGG => ⟨S1 ++ (S3 ++ S2), ?_⟩⟩
 have hS' : a.S = S1 ++ (Si ++ S2) := (List.cons.inj hS).2
 have hnd := hI.nd
 have hrg := hI.rg
 rw [hS] at hnd hrg
 have hid := hrg id List.mem_cons_self
 have ne3 : ∀ j ∈ S3, j ≠ id := fun j hj e => by have := (hN.rg j hj).1; omega
 subst hGG
 refine ⟨hi, ?_, ndIns hnd (fun j hj => (hrg j hj).2) hN.nd fun j hj => (hN.rg j hj).1, fun j hj => ?_, fun j hj => ?_, Nat.le_trans hI.nm hm, (hI.ch.trans hc).upd⟩
 ·dsimp only
  rw [← mix_set' d hrl (by simp; exact hi)]
  refine hback _ S3 c _ (by rw [upd_same, Nat.zero_add]) (fun j hj => ?_) (oc.congr fun j hj => upd_ne _ _ (ne3 j hj))
  have hjm : j ∈ id :: (S1 ++ (Si ++ S2)) := by rcases hj with q | q <;> simp [q]
  have hne : j ≠ id := by
   intro e
   subst e
   refine nin hnd (A := [j]) (B := S1 ++ S2) (List.mem_singleton.2 rfl) (by simpa using hj) ?_
   simp only [List.count_cons, List.count_append, List.count_nil]; omega
  rw [upd_ne _ _ hne]
  exact hN.fr j (hrg j hjm).2
 ·have hm2 := hI.nm
  rcases List.mem_cons.1 hj with q | q
  ·subst q; dsimp only; omega
  ·rcases List.mem_append.1 q with q | q
   ·have := hrg j (by simp [q]); dsimp only; omega
   ·rcases List.mem_append.1 q with q | q
    ·have := hN.rg j q; dsimp only; omega
    ·have := hrg j (by simp [q]); dsimp only; omega
 ·dsimp only
  have hm2 := hI.nm
  rw [upd_ne _ _ (by omega), hN.fr j (by omega)]
  exact hI.fr j hj
structure Rng (S : List Nat) (lo hi : Nat) : Prop where
 nd : S.Nodup
 rg : ∀ j ∈ S, lo ≤ j ∧ j < hi
theorem Rng.nil {a b : Nat} : Rng [] a b := ⟨List.nodup_nil, fun j h => by cases h⟩
theorem Rng.app {A B : List Nat} {a b c d : Nat} (x : Rng A a b) (y : Rng B c d) (h1 : a ≤ c := by omega) (h2 : b ≤ c := by omega) (h3 : b ≤ d := by omega) : Rng (A ++ B) a d :=
 ⟨ndApp x.nd y.nd (fun j hj => (x.rg j hj).2) (fun j hj => Nat.le_trans h2 (y.rg j hj).1), fun j hj => by
  rcases List.mem_append.1 hj with q | q
  ·have := x.rg j q; omega
  ·have := y.rg j q; omega⟩
theorem Rng.mono {S : List Nat} {a b c d : Nat} (x : Rng S a b) (h1 : c ≤ a := by omega) (h2 : b ≤ d := by omega) : Rng S c d := ⟨x.nd, fun j hj => by have := x.rg j hj; omega⟩
theorem New.of {h : Heap} {n : Nat} {S : List Nat} {g : Heap} {m : Nat} (x : Rng S n m) (fr : ∀ j, j < n → g j = h j) : New h n S g m := ⟨x.nd, x.rg, fr⟩
open Go Go.V
set_option linter.unusedVariables false
set_option linter.unusedSimpArgs false
set_option maxRecDepth 20000
set_option maxHeartbeats 4000000
def shMsg : List Sh := .int .i64 :: .int .i64 :: .int .i64 :: .int .i64 :: .str :: .str :: .str :: []
def shCt : List Sh := .str :: .sl shMsg :: []
structure Slt where
 bd : ByteArray
 pr : List Msg
 cm : List Msg
 se : Bool
 dn : Bool
def Slt.T (s : Slt) : List V.T := .str s.bd :: .sl false (s.pr.map Msg.T) :: .sl false (s.cm.map Msg.T) :: .bool s.se :: .bool s.dn :: []
def Slt0 : Slt := ⟨⟨#[]⟩, [], [], false, false⟩
def shSlt : List Sh := .str :: .sl shMsg :: .sl shMsg :: .bool :: .bool :: []
structure Rep where
 id : Int
 nd : Int
 vw : Int
 ac : Bool
 sl : List Slt
 cs : List Ct
 lg : List ByteArray
 ch : List Msg
def Rep.T (s : Rep) : List V.T := .int .i64 s.id :: .int .i64 s.nd :: .int .i64 s.vw :: .bool s.ac :: .sl false (s.sl.map Slt.T) :: .sl false (s.cs.map (Ct.T false)) :: .sl false (s.lg.map tT) :: .sl false (s.ch.map Msg.T) :: []
def Rep0 : Rep := ⟨0, 0, 0, false, [], [], [], []⟩
def shRep : List Sh := .int .i64 :: .int .i64 :: .int .i64 :: .bool :: .sl shSlt :: .sl shCt :: .sl shByteArray :: .sl shMsg :: []
open Go Go.V
set_option linter.unusedVariables false
set_option linter.unusedSimpArgs false
set_option maxRecDepth 20000
set_option maxHeartbeats 4000000
structure Pc where
 to : Int
 ms : Msg
def Pc.T (s : Pc) : List V.T := .int .i64 s.to :: Msg.T s.ms ++ ([])
def Pc0 : Pc := ⟨0, Msg0⟩
def shPc : List Sh := .int .i64 :: shMsg ++ ([])
structure Grp where
 nd : Int
 fa : List Int
 rs : List Rep
 wi : List Pc
 se : List Msg
def Grp.T (s : Grp) : List V.T := .int .i64 s.nd :: .sl false (s.fa.map iT) :: .sl false (s.rs.map Rep.T) :: .sl false (s.wi.map Pc.T) :: .sl false (s.se.map Msg.T) :: []
def Grp0 : Grp := ⟨0, [], [], [], []⟩
def shGrp : List Sh := .int .i64 :: .sl shInt :: .sl shRep :: .sl shPc :: .sl shMsg :: []
open Go Go.V
set_option linter.unusedVariables false
set_option linter.unusedSimpArgs false
set_option maxRecDepth 20000
set_option maxHeartbeats 4000000
def kByteArray : List Kd := [.flat]
def ctByteArray (s : ByteArray) : Nat := 1
noncomputable def mkByteArray (k : Int) (s : ByteArray) : ByteArray := Mt (k)
def kInt : List Kd := [.flat]
def ctInt (s : Int) : Nat := 1
noncomputable def mkInt (k : Int) (s : Int) : Int := k
def kMsg : List Kd := [.flat, .flat, .flat, .flat, .flat, .flat, .flat]
def ctMsg (s : Msg) : Nat := 1 + 1 + 1 + 1 + 1 + 1 + 1
noncomputable def mkMsg (k : Int) (s : Msg) : Msg := ⟨k, k + 1, k + 1 + 1, k + 1 + 1 + 1, Mt (k + 1 + 1 + 1 + 1), Mt (k + 1 + 1 + 1 + 1 + 1), Mt (k + 1 + 1 + 1 + 1 + 1 + 1)⟩
def kCt : List Kd := [.flat, .sl 37 kMsg]
def ctCt (s : Ct) : Nat := 1 + ctL ctMsg s.ps
noncomputable def mkCt (k : Int) (s : Ct) : Ct := ⟨Mt (k), mkL mkMsg ctMsg (k + 1) s.ps⟩
noncomputable def mk0Ct (k : Int) (s : Ct) : Ct := ⟨s.bd, mkL mkMsg ctMsg (k) s.ps⟩
def ct0Ct (s : Ct) : Nat := ctL ctMsg s.ps
def kSlt : List Kd := [.flat, .sl 37 kMsg, .sl 37 kMsg, .flat, .flat]
def ctSlt (s : Slt) : Nat := 1 + ctL ctMsg s.pr + ctL ctMsg s.cm + 1 + 1
noncomputable def mkSlt (k : Int) (s : Slt) : Slt := ⟨Mt (k), mkL mkMsg ctMsg (k + 1) s.pr, mkL mkMsg ctMsg (k + 1 + (ctL ctMsg s.pr : Int)) s.cm, mb (k + 1 + (ctL ctMsg s.pr : Int) + (ctL ctMsg s.cm : Int)), mb (k + 1 + (ctL ctMsg s.pr : Int) + (ctL ctMsg s.cm : Int) + 1)⟩
noncomputable def mk0Slt (k : Int) (s : Slt) : Slt := ⟨s.bd, mkL mkMsg ctMsg (k) s.pr, mkL mkMsg ctMsg (k + (ctL ctMsg s.pr : Int)) s.cm, s.se, s.dn⟩
def ct0Slt (s : Slt) : Nat := ctL ctMsg s.pr + ctL ctMsg s.cm
def kRep : List Kd := [.flat, .flat, .flat, .flat, .sl 80 kSlt, .sl 44 kCt, .sl 9 kByteArray, .sl 37 kMsg]
def ctRep (s : Rep) : Nat := 1 + 1 + 1 + 1 + ctL ctSlt s.sl + ctL ctCt s.cs + ctL ctByteArray s.lg + ctL ctMsg s.ch
noncomputable def mkRep (k : Int) (s : Rep) : Rep := ⟨k, k + 1, k + 1 + 1, mb (k + 1 + 1 + 1), mkL mkSlt ctSlt (k + 1 + 1 + 1 + 1) s.sl, mkL mkCt ctCt (k + 1 + 1 + 1 + 1 + (ctL ctSlt s.sl : Int)) s.cs, mkL mkByteArray ctByteArray (k + 1 + 1 + 1 + 1 + (ctL ctSlt s.sl : Int) + (ctL ctCt s.cs : Int)) s.lg, mkL mkMsg ctMsg (k + 1 + 1 + 1 + 1 + (ctL ctSlt s.sl : Int) + (ctL ctCt s.cs : Int) + (ctL ctByteArray s.lg : Int)) s.ch⟩
noncomputable def mk0Rep (k : Int) (s : Rep) : Rep := ⟨s.id, s.nd, s.vw, s.ac, mkL mkSlt ctSlt (k) s.sl, mkL mkCt ctCt (k + (ctL ctSlt s.sl : Int)) s.cs, mkL mkByteArray ctByteArray (k + (ctL ctSlt s.sl : Int) + (ctL ctCt s.cs : Int)) s.lg, mkL mkMsg ctMsg (k + (ctL ctSlt s.sl : Int) + (ctL ctCt s.cs : Int) + (ctL ctByteArray s.lg : Int)) s.ch⟩
def ct0Rep (s : Rep) : Nat := ctL ctSlt s.sl + ctL ctCt s.cs + ctL ctByteArray s.lg + ctL ctMsg s.ch
def kPc : List Kd := [.flat, .flat, .flat, .flat, .flat, .flat, .flat, .flat]
def ctPc (s : Pc) : Nat := 1 + 1 + 1 + 1 + 1 + 1 + 1 + 1
noncomputable def mkPc (k : Int) (s : Pc) : Pc := ⟨k, ⟨k + 1, k + 1 + 1, k + 1 + 1 + 1, k + 1 + 1 + 1 + 1, Mt (k + 1 + 1 + 1 + 1 + 1), Mt (k + 1 + 1 + 1 + 1 + 1 + 1), Mt (k + 1 + 1 + 1 + 1 + 1 + 1 + 1)⟩⟩
def kGrp : List Kd := [.flat, .sl 3 kInt, .sl 54 kRep, .sl 130 kPc, .sl 37 kMsg]
def ctGrp (s : Grp) : Nat := 1 + ctL ctInt s.fa + ctL ctRep s.rs + ctL ctPc s.wi + ctL ctMsg s.se
noncomputable def mkGrp (k : Int) (s : Grp) : Grp := ⟨k, mkL mkInt ctInt (k + 1) s.fa, mkL mkRep ctRep (k + 1 + (ctL ctInt s.fa : Int)) s.rs, mkL mkPc ctPc (k + 1 + (ctL ctInt s.fa : Int) + (ctL ctRep s.rs : Int)) s.wi, mkL mkMsg ctMsg (k + 1 + (ctL ctInt s.fa : Int) + (ctL ctRep s.rs : Int) + (ctL ctPc s.wi : Int)) s.se⟩
noncomputable def mk0Grp (k : Int) (s : Grp) : Grp := ⟨s.nd, mkL mkInt ctInt (k) s.fa, mkL mkRep ctRep (k + (ctL ctInt s.fa : Int)) s.rs, mkL mkPc ctPc (k + (ctL ctInt s.fa : Int) + (ctL ctRep s.rs : Int)) s.wi, mkL mkMsg ctMsg (k + (ctL ctInt s.fa : Int) + (ctL ctRep s.rs : Int) + (ctL ctPc s.wi : Int)) s.se⟩
def ct0Grp (s : Grp) : Nat := ctL ctInt s.fa + ctL ctRep s.rs + ctL ctPc s.wi + ctL ctMsg s.se
open Go Go.V
set_option linter.unusedVariables false
set_option linter.unusedSimpArgs false
set_option maxRecDepth 20000
set_option maxHeartbeats 4000000
open Go Go.V
set_option linter.unusedVariables false
set_option linter.unusedSimpArgs false
set_option maxRecDepth 20000
set_option maxHeartbeats 4000000
open Go Go.V
set_option linter.unusedVariables false
set_option linter.unusedSimpArgs false
set_option maxRecDepth 20000
set_option maxHeartbeats 4000000
open Go.V
set_option linter.unusedVariables false
set_option linter.unusedSimpArgs false
set_option maxRecDepth 20000
set_option maxHeartbeats 4000000
def slOK (n vw sq : Int) (s : Slt) : Prop := (s.bd ≠ ⟨#[]⟩ → s.bd.size ≤ 20000 ∧ bodyOK rdM n s.bd) ∧ (∀ i, i < s.pr.length → arS n 2 vw sq s.pr i) ∧ (∀ i, i < s.cm.length → arS n 3 vw sq s.cm i)
def Ct.E (c : Ct) : Prop := c.bd = ⟨#[]⟩ ∧ c.ps.length = 0
def ceOK (n vw sq : Int) (c : Ct) : Prop := ¬ c.E → ctOK mk bare rdM dgB n c ∧ c.sq = sq ∧ c.vw ≤ vw
def lgOK (n : Int) (b : ByteArray) : Prop := b.size ≤ 20000 ∧ bodyOK rdM n b
def chOK (n vw : Int) (L : List Msg) (i : Nat) : Prop := okV n (L.getD i Msg0) ∧ vw ≤ (L.getD i Msg0).vw ∧ (L.getD i Msg0).vw = (L.getD 0 Msg0).vw ∧ (0 < i → (L.getD (i - 1) Msg0).fr < (L.getD i Msg0).fr)
def Rep.hd (r : Rep) : Prop := nodes r.nd ∧ (0 ≤ r.id ∧ r.id ≤ r.nd - 1) ∧ (0 ≤ r.vw ∧ r.vw ≤ 20) ∧ r.sl.length = 8 ∧ r.cs.length = 8 ∧ r.lg.length ≤ 8 ∧ (r.ch.length : Int) ≤ r.nd
def Rep.OK (r : Rep) : Prop := r.hd ∧ (∀ i, i < r.sl.length → slOK r.nd r.vw ((i : Int) + 1) (r.sl.getD i Slt0)) ∧ (∀ i, i < r.cs.length → ceOK r.nd r.vw ((i : Int) + 1) (r.cs.getD i Ct0)) ∧ (∀ i, i < r.lg.length → lgOK r.nd (r.lg.getD i ⟨#[]⟩)) ∧ (∀ i, i < r.ch.length → chOK r.nd r.vw r.ch i)
noncomputable instance dcSl (n vw sq : Int) (s : Slt) : Decidable (slOK n vw sq s) := Classical.propDecidable _
noncomputable instance dcCE (c : Ct) : Decidable c.E := Classical.propDecidable _
noncomputable instance dcRep (r : Rep) : Decidable r.OK := Classical.propDecidable _
open Go.V
set_option linter.unusedVariables false
set_option linter.unusedSimpArgs false
set_option maxRecDepth 20000
set_option maxHeartbeats 4000000
def fyOK (n : Int) (F : List Int) : Prop := (F.length : Int) ≤ (n - 1) / 3 ∧ ∀ i, i < F.length → (0 ≤ F.getD i 0 ∧ F.getD i 0 ≤ n - 1) ∧ (0 < i → F.getD (i - 1) 0 < F.getD i 0)
def rsOK (n : Int) (L : List Rep) (i : Nat) : Prop := (L.getD i Rep0).id = (i : Int) ∧ (L.getD i Rep0).nd = n ∧ (L.getD i Rep0).OK
def pcOK (n : Int) (p : Pc) : Prop := (0 ≤ p.to ∧ p.to ≤ n - 1) ∧ sgd mk bare n p.ms
def sgM (n : Int) (m : Msg) : Prop := sgd mk bare n m
def Grp.hd (g : Grp) : Prop := nodes g.nd ∧ fyOK g.nd g.fa ∧ (g.rs.length : Int) = g.nd ∧ g.wi.length ≤ 400 ∧ g.se.length ≤ 4096
def Grp.OK (g : Grp) : Prop := g.hd ∧ (∀ i, i < g.rs.length → rsOK g.nd g.rs i) ∧ (∀ i, i < g.wi.length → pcOK g.nd (g.wi.getD i Pc0)) ∧ (∀ i, i < g.se.length → sgM g.nd (g.se.getD i Msg0))
def riOK (lo hi : Int) (F : List Int) (i : Nat) : Prop := (lo ≤ F.getD i 0 ∧ F.getD i 0 ≤ hi) ∧ (0 < i → F.getD (i - 1) 0 < F.getD i 0)
noncomputable instance dcRi (lo hi : Int) (F : List Int) : Decidable (∀ i, i < F.length → riOK lo hi F i) := Classical.propDecidable _
noncomputable instance dcFy (n : Int) (F : List Int) : Decidable (nodes n ∧ fyOK n F) := Classical.propDecidable _
noncomputable instance dcFz (n : Int) (F : List Int) : Decidable (fyOK n F) := Classical.propDecidable _
noncomputable instance dcGrp (g : Grp) : Decidable g.OK := Classical.propDecidable _
def anyP {α : Type} (P : α → Prop) (L : List α) : Prop := ∃ x ∈ L, P x
noncomputable instance dcAny {α : Type} (P : α → Prop) (L : List α) : Decidable (anyP P L) := Classical.propDecidable _
def nS (n : Int) (m : Msg) : Prop := ¬ (nodes n ∧ sgd mk bare n m)
noncomputable instance dcNs (n : Int) (m : Msg) : Decidable (nS n m) := Classical.propDecidable _
open Go.V
set_option linter.unusedVariables false
set_option linter.unusedSimpArgs false
set_option maxRecDepth 20000
set_option maxHeartbeats 4000000
def isF (F : List Int) (x : Int) : Prop := ∃ y ∈ F, y = x
noncomputable instance dcIf (F : List Int) (x : Int) : Decidable (isF F x) := Classical.propDecidable _
noncomputable def lyL (G : Grp) : Nat → List Rep
 | 0 => []
 | i + 1 => if isF G.fa (i : Int) then lyL G i else lyL G i ++ [G.rs.getD i Rep0]
noncomputable def ly (G : Grp) : List Rep := lyL G G.rs.length
def lgB (L : List Rep) : Nat → List ByteArray
 | 0 => []
 | i + 1 => if (L.getD i Rep0).lg.length > (lgB L i).length then (L.getD i Rep0).lg else lgB L i
noncomputable def lgS (G : Grp) : Nat → List ByteArray
 | 0 => []
 | i + 1 => if ¬ isF G.fa (i : Int) ∧ (G.rs.getD i Rep0).lg.length > (lgS G i).length then (G.rs.getD i Rep0).lg else lgS G i
noncomputable def lgO (G : Grp) : List ByteArray := lgB (ly G) (ly G).length
def bO (l : List ByteArray) : V := if l = [] then .nsl else .sl false false (l.map tT)
theorem getVk {α : Type} (f : α → List V) (d : α) {L : List α} {k : Nat} (h : k < L.length) : (L.map f)[0 + ((k : Int)).toNat]? = some (f (L.getD k d)) := by rw [Nat.zero_add]; simp [h]
def repV (R : Rep) : List V := [.int .i64 R.id, .int .i64 R.nd, .int .i64 R.vw, .bool R.ac, .sl false false (R.sl.map Slt.T), .sl false false (R.cs.map (Ct.T false)), .sl false false (R.lg.map tT), .sl false false (R.ch.map Msg.T)]
structure LY where
 i : Nat
 o : V
 b : Nat
 m : Nat
 g : Heap
structure LyI (G : Grp) (h : Heap) (n : Nat) (a : LY) : Prop where
 il : a.i ≤ G.rs.length
 old : ∀ j b, j < n → h j = some b → a.g j = some b
 out : LsOK repV 8 54 n (lyL G a.i) a.o a.b a.m a.g
 mm : n ≤ a.m
open Go.V
set_option linter.unusedVariables false
set_option linter.unusedSimpArgs false
set_option maxRecDepth 20000
set_option maxHeartbeats 4000000
structure LG where
 i : Nat
 o : V
 m : Nat
structure LM where
 i : Nat
 o : V
 m : Nat
 g : Heap
structure LmI (G : Grp) (h : Heap) (n b : Nat) (a : LM) : Prop where
 il : a.i ≤ (ly G).length
 ob : a.o = bO (lgB (ly G) a.i)
 old : ∀ j bb, j < n → h j = some bb → a.g j = some bb
 blk : a.g b = some ⟨(ly G).map repV, 8, 54⟩
 nm : n ≤ b ∧ b < a.m
def bS (l : List ByteArray) : V := if l = [] then .view 1 0 0 else .sl false false (l.map tT)
open Go.V
set_option linter.unusedVariables false
set_option linter.unusedSimpArgs false
set_option maxRecDepth 20000
set_option maxHeartbeats 4000000
def lgG (G : Grp) (R : Rep) : Prop := R.lg = (lgO G).take R.lg.length
def agr (G : Grp) : Prop := ∀ j, j < G.rs.length → ¬ isF G.fa (j : Int) → lgG G (G.rs.getD j Rep0)
noncomputable instance dcAgr (G : Grp) : Decidable (G.OK ∧ agr G) := Classical.propDecidable _
noncomputable instance dcAgr2 (G : Grp) : Decidable (agr G) := Classical.propDecidable _
noncomputable instance dcLgG (G : Grp) (R : Rep) : Decidable (lgG G R) := Classical.propDecidable _
noncomputable instance dcEqL (A B : List ByteArray) : Decidable (A = B) := Classical.propDecidable _
open Go.V
set_option linter.unusedVariables false
set_option linter.unusedSimpArgs false
set_option maxRecDepth 20000
set_option maxHeartbeats 4000000
open Go.V
set_option linter.unusedVariables false
set_option linter.unusedSimpArgs false
set_option maxRecDepth 20000
set_option maxHeartbeats 4000000
open Go.V
set_option linter.unusedVariables false
set_option linter.unusedSimpArgs false
set_option maxRecDepth 20000
set_option maxHeartbeats 4000000
open Go Go.V
set_option linter.unusedVariables false
set_option linter.unusedSimpArgs false
open Go.V
set_option linter.unusedVariables false
set_option linter.unusedSimpArgs false
set_option maxRecDepth 20000
set_option maxHeartbeats 4000000
theorem one1 {i j : Nat} {x b : Blk} (hb : app [(i, some x)] (fun _ => none) j = some b) : j = i ∧ b = x := by
 rw [V.appC, V.app0] at hb
 by_cases hj : j = i
 ·subst hj; rw [V.upd_same] at hb; exact ⟨rfl, (Option.some.inj hb).symm⟩
 ·rw [V.upd_ne _ _ hj] at hb; cases hb
open Go.V
set_option linter.unusedVariables false
set_option linter.unusedSimpArgs false
set_option maxRecDepth 20000
set_option maxHeartbeats 4000000
theorem rowsMg (L : List Msg) : L.map Msg.V = rowsV (L.map Msg.T) := by unfold rowsV; rw [List.map_map]; rfl
theorem rowsSg (L : List ByteArray) : L.map tV = rowsV (L.map tT) := by unfold rowsV; rw [List.map_map]; rfl
theorem flat1 {k : Nat} {es : List (List V)} {sz ty : Nat} (h : ∀ e ∈ es, ∀ x ∈ e, x.flat = true) : ∀ id b, app [(k, some ⟨es, sz, ty⟩)] (fun _ => none) id = some b → ∀ e ∈ b.es, ∀ x ∈ e, x.flat = true := fun id b hb => by
 obtain ⟨_, rfl⟩ := one1 hb
 exact h
open Go Go.V
set_option linter.unusedVariables false
set_option linter.unusedSimpArgs false
set_option maxRecDepth 20000
set_option maxHeartbeats 4000000
noncomputable def lgW (G : Grp) : List ByteArray := if G.OK then lgO G else []
noncomputable def lgC (G : Grp) : Int := if G.OK then 0 else 1
def V.data2 : V → Bool
 | .agg cs => cs.all V.data
 | v => v.data
theorem VR.data2 {c c' : Cx} {x : V} {v : Value} (hx : V.data2 x = true) (h : VR c x v) (hi : ∀ b, c.I b → c'.I b) (G0 : c'.B = c.B ∧ c'.w = c.w) : VR c' x v := by
 obtain ⟨hB, hw⟩ := G0
 cases h with
 | agg cs vs hl h => exact .agg cs vs hl fun i x v h1 h2 => VR.data (List.all_eq_true.1 hx x (List.mem_of_getElem? h1)) (h i x v h1 h2) hi hB hw
 | bool b => exact .bool b
 | int k n => exact .int k n
 | str s => exact .str s
 | nilp => exact .nilp
 | nilf => exact .nilf
 | nsl => exact .nsl
 | sl fr nn es v h => exact VR.data (x := .sl fr nn es) rfl (.sl fr nn es v h) hi hB hw
 | view id off len p o cap hp ho hl hm => cases hx
 | ptr id i j p hp hm => cases hx
 | map id p hp hm => cases hx
 | iptr fr cs b o rd hI hrd hsub => cases hx
 | clo f caps vs hl h => cases hx
 | tup cs vs hl h => cases hx
 | unk v => cases hx
 | vcap id off len cp p o hp ho hl hm => cases hx
open Go Go.V
set_option linter.unusedVariables false
set_option linter.unusedSimpArgs false
set_option maxRecDepth 20000
set_option maxHeartbeats 4000000
theorem openSh1 {E : Env} {f : FuncId} {args : List V} {id len m : Nat} {es : List (List V)} {sz ty : Nat}
  (H : V.Open E f args (fun _ => none) 0 (.view id 0 len) [(id, some ⟨es, sz, ty⟩)] m)
  (hda : ∀ x ∈ args, V.data2 x = true) (hes : ∀ e ∈ es, ∀ x ∈ e, x.data = true) (n : Nat) :
  V.Open E f args (fun _ => none) n (.view n 0 len) [(n, some ⟨es, sz, ty⟩)] (n + 1) := by
 unfold V.Open at H ⊢
 obtain ⟨⟨hcp, _⟩, H⟩ := H
 refine ⟨⟨hcp, Nat.le_succ n⟩, fun c vs hg hfr hal har => ?_⟩
 let c0 : Cx := { ρ := fun _ => none, I := c.I, B := c.B, w := c.w }
 have hg0 : V.Good E c0 (fun _ => none) := by
  refine ⟨fun _ _ h => (nomatch h), fun _ _ _ _ _ _ h => (nomatch h), hg.imm, fun _ _ _ h => (nomatch h), fun _ _ h => (nomatch h), hg.base, fun g cs hgc => ?_⟩
  have := hg.glob g cs hgc
  cases this with
  | iptr _ _ b off rd hI hrd' hsub => exact .iptr false cs g 0 rd hI hrd' hsub
 refine Calls.mono (H c0 vs hg0 (fun _ _ => rfl) hal (fun i x u h1 h2 => VR.data2 (hda x (List.mem_of_getElem? h1)) (har i x u h1 h2) (fun _ h => h) j2)) ?_
 rintro e w' ⟨u, c', rfl, rfl, hx2, hg2, hd2, hv2⟩
 have hb0 : app [(id, some (⟨es, sz, ty⟩ : Blk))] (fun _ => none) id = some ⟨es, sz, ty⟩ := by
  rw [V.appC, V.app0]; exact V.upd_same _ _ _
 obtain ⟨p, hp, hpc, hpm⟩ := hg2.blk id _ hb0
 let c2 : Cx := { ρ := fun j => if j = n then some p else c.ρ j, I := c'.I, B := c'.B, w := c'.w }
 have hcn : c.ρ n = none := hfr n (Nat.le_refl n)
 have r1 : ∀ j q, c.ρ j = some q → c2.ρ j = some q := fun j q hq => by
  show (if j = n then some p else c.ρ j) = some q
  rw [if_neg (fun e => by rw [e, hcn] at hq; cases hq), hq]
 have vd : ∀ (x : V) (v : Value), x.data = true → VR c' x v → VR c2 x v := fun x v hx h => VR.data hx h (fun _ h => h) rfl rfl
 have hb2 : ∀ j b, app [(n, some (⟨es, sz, ty⟩ : Blk))] (fun _ => none) j = some b → j = n ∧ b = ⟨es, sz, ty⟩ := fun j b hb => by
  have hb : upd (fun _ => none) n (some (⟨es, sz, ty⟩ : Blk)) j = some b := hb
  by_cases hj : j = n
  ·subst hj; rw [upd_same] at hb; exact ⟨rfl, (Option.some.inj hb).symm⟩
  ·rw [upd_ne _ _ hj] at hb; cases hb
 have hpn : c2.ρ n = some p := if_pos rfl
 refine ⟨u, c2, rfl, rfl, ⟨hx2.B, r1, hx2.imm, hx2.keep, hx2.below⟩, ⟨fun j b hb => ?_, fun j j' b b' q q' hb hb' _ _ _ => (hb2 j b hb).1.trans (hb2 j' b' hb').1.symm, hg2.imm, fun j b q hb hq => ?_, fun j q hq => ?_, hg2.base, fun g cs hgc => ?_⟩, fun j hj => ?_, ?_⟩
 ·obtain ⟨rfl, rfl⟩ := hb2 j b hb
  refine ⟨p, hpn, fun hm => ?_, fun hm => ?_⟩
  ·obtain ⟨cells, fz, j2, j3, j4, j5, j6, j7, j8⟩ := hpc hm
   refine ⟨cells, fz, j2, j3, j4, j5, j6, j7, fun i k x hx => ?_⟩
   obtain ⟨w, m1, m2, m3⟩ := j8 i k x hx
   refine ⟨w, m1, vd x w ?_ m2, m3⟩
   unfold get2 at hx
   cases he : es[i]? with
   | none => simp [he] at hx
   | some e =>
    simp only [he, Option.bind_some] at hx
    exact hes e (List.mem_of_getElem? he) x (List.mem_of_getElem? hx)
  ·obtain ⟨en, j1, j2, j3⟩ := hpm hm
   refine ⟨en, j1, j2, fun i row hr => ?_⟩
   obtain ⟨e, k, x, m1, m2, m3, m4, m5⟩ := j3 i row hr
   have hfr := hes row (List.mem_of_getElem? hr)
   exact ⟨e, k, x, m1, m2, m3, vd k _ (hfr k (by rw [m2]; simp)) m4, vd x _ (hfr x (by rw [m2]; simp)) m5⟩
 ·obtain ⟨rfl, rfl⟩ := hb2 j b hb
  rw [hpn] at hq; obtain rfl := Option.some.inj hq
  exact hg2.sep id _ p hb0 hp
 ·have hq : (if j = n then some p else c.ρ j) = some q := hq
  by_cases hj : j = n
  ·rw [if_pos hj] at hq; obtain rfl := Option.some.inj hq
   exact hg2.own id p hp
  ·rw [if_neg hj] at hq
   have h1 := hg.own j q hq
   have h2 : c.w.heap.size ≤ c'.w.heap.size := hx2.below.size
   have h3 : c'.B = c.B := hx2.B
   exact ⟨by show c'.B ≤ q.b; rw [h3]; exact h1.1, Nat.lt_of_lt_of_le h1.2 h2⟩
 ·have := hg2.glob g cs hgc
  cases this with
  | iptr _ _ b off rd hI hrd' hsub => exact .iptr false cs g 0 rd hI hrd' hsub
 ·have hj : (if j = n then some p else c.ρ j) ≠ none := hj
  by_cases h : j = n
  ·exact .inr ⟨by omega, by omega⟩
  ·rw [if_neg h] at hj; exact .inl hj
 ·cases hv2 with
  | view _ _ _ q o cap hq ho hl hm =>
   rw [hp] at hq; obtain rfl := Option.some.inj hq
   exact .view n 0 len p o cap hpn ho hl hm
theorem o167a (m : Msg) (hd : m.dg.size ≤ 1000) (hb : m.bd.size ≤ 20000) : ∃ x : Nat × Nat, True ∧ V.Open En 167 ([A.agg m.T].map (A.toV false)) (fun _ => none) 0 (.view x.1 0 (plnL m).length) [(x.1, some ⟨(plnL m).map bV, 1, 5⟩)] x.2 := by
 refine V.Open.of_evX (st := []) Tryz.func167 rfl kb ?_
 refine A4 ?_
 refine A4 ?_
 refine A4 ?_
 refine A4 ?_
 refine A4 ?_
 refine D3 (es := [[.int _ _], [.int _ _], [.int _ _], [.int _ _], [.int _ _]]) j4 kz kb rfl rfl ?_
 refine A4 ?_
 (apply eap (s' := 1) rfl rfl; exact Q0; exact j2; exact Q17; exact j2; exact kz; rfl; exact (P8 m.dg); exact Q19; exact Q19)
 refine A4 ?_
 refine C8 (s105 m.bd.size 2 (by decide)) rfl rfl rfl ?_
 (apply eap (s' := 1) rfl rfl; exact Q0; exact j2; exact Q17; exact j2; exact kz; rfl; exact (K8 true (numL m.bd.size 2)); exact Q19; exact Q19)
 refine clr 10 [0, 3, 0, 0, 1, 0, 3, 1, 0, 0] [(3, 5)] j2 (by decide +kernel) ?_ ?_
 ·first | (simp [ClearL, ids]; done) | (simp [ClearL, ids]; omega) | (simp [ClearL, ids, srcIds, Env.eval, put, upd, retV, A.toV, T.toV]; try omega)
 refine A4 ?_
 (apply eap (s' := 1) rfl rfl; exact Q0; exact j2; exact Q17; exact j2; exact kz; rfl; exact (P8 m.bd); exact Q19; exact Q19)
 exact ⟨(4, 5), trivial, G9 rfl (congrArg (V.view 4 0) (by rw [H0]; exact Q17)) (leWr (by
  intro j hj
  simp only [List.map_cons, List.map_nil, List.mem_cons, List.not_mem_nil, or_false] at hj
  rcases hj with rfl; (simp (disch := omega) only [↓app0, ↓appC, ↓updS, ↓updN]); exact congrArg (fun z => some (Blk.mk z 1 5)) (by unfold plnL; rw [List.map_append, List.map_append, List.map_append, ← bytRows, ← bytRows, List.drop_zero, List.drop_zero, List.drop_zero, rowsBf]; rfl)) (fun j hj hn => by omega)) (Nat.le_refl _)⟩
theorem bVflat (B : List Int) : ∀ e ∈ B.map bV, ∀ x ∈ e, x.data = true := fun e he x hx => by
 obtain ⟨s, _, rfl⟩ := List.mem_map.1 he; rw [show x = .int .u8 s from List.mem_singleton.1 hx]; rfl
theorem bVflat2 (B : List Int) : ∀ e ∈ B.map bV, ∀ x ∈ e, x.flat = true := fun e he x hx => by
 obtain ⟨s, _, rfl⟩ := List.mem_map.1 he; rw [show x = .int .u8 s from List.mem_singleton.1 hx]; rfl
theorem o167 (m : Msg) (hd : m.dg.size ≤ 1000) (hb : m.bd.size ≤ 20000) (k : Nat) : V.Open En 167 ([A.agg m.T].map (A.toV false)) (fun _ => none) k (.view k 0 (plnL m).length) [(k, some ⟨(plnL m).map bV, 1, 5⟩)] (k + 1) := by
 obtain ⟨⟨j, q⟩, _, hS⟩ := o167a m hd hb
 exact openSh1 hS (fun x hx => by simp only [List.map_cons, List.map_nil, List.mem_cons, List.not_mem_nil, or_false] at hx; rcases hx with rfl; rfl) (bVflat _) k
theorem r211 (m : Msg) (hd : m.dg.size ≤ 1000) (hb : m.bd.size ≤ 20000) (hc : m.mc.size ≤ 1000) : Pure En 211 [.agg m.T] [.one (.sl true ((msWL m).map bT))] := by
 refine Pure.of_ev (st := []) Tryz.func211 rfl kb ?_
 (apply D2 (vs := [.int _ _, .int _ _, .int _ _, .int _ _, .str _, .str _, .str _]) j2; exact Q0; rfl; rfl; exact kb; rfl)
 (apply efs [] (o167 m hd hb _) rfl j2; (exact SnapL.cons _ _ _ _ (SnapC.agg (snapRow m.T)) SnapL.nil); rfl; (exact flat1 (bVflat2 _)); exact List.cons_ne_nil _ _)
 refine A4 ?_
 (apply eap (s' := 1)  rfl rfl; exact Q0; exact j2; (first | rfl | (focus (simp only [List.length_append, List.length_drop, List.length_map, List.length_cons, List.length_nil, A5, H0, Nat.sub_zero, Nat.zero_add, D8, D1, Array.length_toList]; done)) | (focus (simp only [List.length_append, List.length_drop, List.length_map, List.length_cons, List.length_nil, A5, H0, Nat.sub_zero, Nat.zero_add, D8, D1, Array.length_toList]; omega))); exact j2; exact kz; exact H5; exact Q12; (first | omega | (focus (simp only [List.length_cons, List.length_nil]; omega)) | exact kb | (focus (simp only [List.length_append, List.length_drop, List.length_map, List.length_cons, List.length_nil, A5, H0, Nat.sub_zero, Nat.zero_add, D8, D1, Array.length_toList]; omega)) | omega); (first | omega | (focus (simp only [List.length_cons, List.length_nil]; omega)) | exact kb | (focus (simp only [List.length_append, List.length_drop, List.length_map, List.length_cons, List.length_nil, A5, H0, Nat.sub_zero, Nat.zero_add, D8, D1, Array.length_toList]; omega)) | omega))
 refine clr 6 [0, 3, 1, 0, 3, 1] [(1, 3)] j2 (by decide +kernel) ?_ ?_
 ·first | (simp [ClearL, ids]; done) | (simp [ClearL, ids]; omega) | (simp [ClearL, ids, srcIds, Env.eval, put, upd, retV, A.toV, T.toV]; try omega)
 refine C7 [2] (A0 rfl A1) (SnapL.cons _ _ _ _ (.one _ _ (N5 (List.mem_singleton.2 rfl) ?_ ?_)) SnapL.nil)
 ·((simp (disch := omega) only [↓app0, ↓appC, ↓updS, ↓updN, ↓hpS, ↓hpN]); exact congrArg (fun z => some (Blk.mk z 1 5)) (by unfold msWL; simp only [List.map_append, ← bytRows, List.drop_zero, rowsBf]; (try rfl)))
 ·(unfold msWL; simp only [List.length_append, List.length_map, List.length_drop, C4, D8]; (try omega))
noncomputable def cwL (c : Ct) (i : Nat) : List ByteArray := c.bd :: (c.ps.take i).map msW
theorem cwL_len {c : Ct} {i : Nat} (h : i ≤ c.ps.length) : (cwL c i).length = i + 1 := by unfold cwL; rw [List.length_cons, List.length_map, List.length_take]; omega
theorem cwL_succ {c : Ct} {i : Nat} (h : i < c.ps.length) : cwL c (i + 1) = cwL c i ++ [msW (c.ps.getD i Msg0)] := by
 have ht : c.ps.take (i + 1) = c.ps.take i ++ [c.ps.getD i Msg0] := by rw [List.take_add_one]; simp [h]
 unfold cwL; rw [ht, List.map_append]; rfl
theorem cwL_all (c : Ct) : (cwL c c.ps.length).map tV = (c.bd :: c.ps.map msW).map tV := by unfold cwL; rw [List.take_length]
theorem r142 (c : Ct) (b : Bool) (h7 : c.ps.length ≤ 7) (hm8 : ∀ i, i < c.ps.length → (c.ps.getD i Msg0).dg.size ≤ 1000 ∧ (c.ps.getD i Msg0).bd.size ≤ 20000 ∧ (c.ps.getD i Msg0).mc.size ≤ 1000) (hs : ∀ s ∈ (c.bd :: c.ps.map msW), s.size ≤ 20000) : Pure En 142 [.agg (c.T b)] [.one (.sl true ((lsP (c.bd :: c.ps.map msW) (c.bd :: c.ps.map msW).length).map bT))] := by
 refine Pure.of_ev (st := [4]) Tryz.func142 rfl kb ?_
 refine A4 ?_ (by exact Q0) (by exact Q8)
 refine D3 (es := [[.str _]]) j4 kz kb rfl rfl ?_
 refine U7 fun g0 hg0 => ?_
 refine A9 (fun (a : LB) => [.unk, .ptr 0 0 0, .unk, .view a.b 0 (cwL c a.i).length, .int .i64 a.i]) (fun (a : LB) => a.g) (fun (a : LB) => a.m) (fun (a : LB) => LBI (some ⟨[[.str c.bd, .sl false b (c.ps.map Msg.T)]], 2, 44⟩) (fun i => (cwL c i).map tV) 1 9 c.ps.length a) (fun (a : LB) => c.ps.length - a.i) ⟨0, 1, 2, g0⟩ ?_ ?_ ?_ ?_ ?_
 ·refine ⟨Nat.zero_le _, ?_, ?_, by dsimp only; omega⟩
  ·dsimp only; rw [hg0]; exact Q0
  ·dsimp only; rw [hg0]; exact Q0
 ·(repeat first | exact LE.nil _ | refine LE.unk _ _ ?_ | refine LE.eq _ _ _ rfl ?_)
 ·exact LessH.refl _
 ·exact Nat.le_refl _
 intro ⟨i, b1, m, g⟩ hI ih
 have q0 := hI.il
 have hg0 := hI.g0
 have hg1 := hI.out
 have q4 := hI.bm
 dsimp only at q0 hg0 hg1 q4 ⊢
 have hrl : (c.ps.map Msg.T).length = c.ps.length := List.length_map ..
 have hwl : (cwL c i).length = i + 1 := cwL_len q0
 refine A7 (st := [4]) ?_
 refine A4 ?_ (by exact Q0) (by exact Q8)
 refine br ?_ ?_ <;> intro h3_4
 ·refine A4 ?_ (by exact Q0) (by exact Q8)
  (refine sd (by (first | omega | assumption | (rw [List.length_map]; omega))) (D7 (by first | rfl | assumption | (exact B0 Msg.T Msg0 (k := i) (by omega))) rfl ?_))
  refine C8 (r211 (c.ps.getD i Msg0) (hm8 i (by omega)).1 (hm8 i (by omega)).2.1 (hm8 i (by omega)).2.2) rfl rfl rfl ?_
  (apply esg j4; rfl; (intro s e; cases e); exact rowsBf true _)
  refine D3 (es := [[.str _]]) j4 kz kb rfl rfl ?_
  (apply eap (s' := 16) (es := [[.str _]]) rfl rfl; exact Q0; exact j2; (first | rfl | (rw [List.length_map]; done) | simp); exact j2; exact kz; exact H5; exact Q6; (first | omega | (focus (simp only [List.length_cons, List.length_nil]; omega)) | (first | exact kb | (rw [hwl]; simp only [List.length_cons, List.length_nil]; omega))); (first | omega | (focus (simp only [List.length_cons, List.length_nil]; omega)) | (first | exact kb | (rw [hwl]; simp only [List.length_cons, List.length_nil]; omega))))
  refine E1 fun GG hGG => ?_
  refine D6 ⟨by (first | omega | (rw [List.length_map]; omega)), by (first | omega | (rw [List.length_map]; omega))⟩ ?_
  have hb2 : cwL c (i + 1) = cwL c i ++ [V.strOw (msWL (c.ps.getD i Msg0))] := by rw [msWL_str]; exact cwL_succ (by omega)
  refine C6 (ih ⟨i + 1, m + 1, m + 1 + 1, GG⟩ ⟨by dsimp only; omega, ?_, ?_, by dsimp only; omega⟩ (by dsimp only; omega)) (by (repeat first | exact LE.nil _ | refine LE.unk _ _ ?_ | refine LE.eq _ _ _ rfl ?_ | refine LE.eq _ _ _ (congrArg (V.view _ 0) (by (try dsimp only); rw [hb2, List.length_append]; rfl)) ?_)) (LessH.refl _) (Nat.le_refl _)
  ·dsimp only; rw [hGG]; exact Q0
  ·dsimp only; rw [hGG, hb2]; ((simp (disch := omega) only [↓app0, ↓appC, ↓updS, ↓updN, ↓hpS, ↓hpN]); exact congrArg (fun z => some (Blk.mk z 1 9)) (by simp only [List.map_append, List.drop_zero]; rfl))
 ·apply T3 [b1] (r146 (c.bd :: c.ps.map msW) true (by rw [List.length_cons, List.length_map]; omega) hs) rfl rfl rfl
  ·exact SnapL.cons _ _ _ _ (.one _ _ (A3 (b := ⟨(c.bd :: c.ps.map msW).map tV, 1, 9⟩) ((c.bd :: c.ps.map msW).map tT) (List.mem_singleton.2 rfl) (by rw [← cwL_all c, ← (show i = c.ps.length by omega)]; exact hg1) (rowsSg _) (by rw [hwl]; simp only [List.length_map, List.length_cons]; omega))) SnapL.nil
  exact E4 rfl rfl
open Go Go.V
set_option linter.unusedVariables false
set_option linter.unusedSimpArgs false
set_option maxRecDepth 20000
set_option maxHeartbeats 4000000
theorem bytes.get {B : List Int} (h : bytes B) (k : Nat) : 0 ≤ B.getD k 0 ∧ B.getD k 0 ≤ 255 := by
 rcases Nat.lt_or_ge k B.length with hk | hk
 ·rw [List.getD_eq_getElem?_getD, List.getElem?_eq_getElem hk]; have := h _ (List.getElem_mem hk); simp only [Option.getD_some]; omega
 ·rw [List.getD_eq_getElem?_getD, List.getElem?_eq_none hk]; exact ⟨Int.le_refl _, by decide⟩
theorem E6 {a b : Int} (ha : 0 ≤ a) (hb : 0 < b) : 0 ≤ a.tmod b ∧ a.tmod b < b := ⟨Int.tmod_nonneg _ ha, Int.tmod_lt_of_pos _ hb⟩
def srcB (fr nn : Bool) (B : List Int) (k sd : Int) : Blk := ⟨[[.sl fr nn (B.map bT), .int .i64 k, .int .i64 sd]], 3, 184⟩
def sdOK (sd : Int) : Prop := 0 ≤ sd ∧ sd < 2147483648
theorem o68 (fr nn : Bool) (B : List Int) {h : Heap} {n : Nat} : ∃ sd : Int, sdOK sd ∧ V.Open En 68 [.sl fr nn (B.map bT)] h n (.ptr n 0 0) [(n, some (srcB fr nn B 0 sd))] (n + 1) := by
 refine V.Open.of_evX (st := []) (v := fun _ => .ptr n 0 0) (wr := fun sd => [(n, some (srcB fr nn B 0 sd))]) (m := fun _ => n + 1) Tryz.func68 rfl kb ?_
 refine C2 ?_
 exact ⟨_, by have := E6 (a := ((B.map bT).length : Int)) (b := 1000) (by omega) (by omega); unfold sdOK; omega, G9 rfl rfl (fun _ _ _ e => e) (Nat.le_refl _)⟩
theorem wrap_q {x : Int} (h1 : 0 ≤ x) (h2 : x < 2147483648) : 0 ≤ IntKind.i64.wrap (x.tdiv 65536) := by
 have h3 : 0 ≤ x.tdiv 65536 := Int.tdiv_nonneg h1 (by decide)
 have h4 : x.tdiv 65536 ≤ x := Int.tdiv_le_self _ h1
 rw [wrap_i64 (by omega) (by omega)]; exact h3
theorem o212 (fr nn : Bool) (B : List Int) (hB : bytes B) (hL : B.length ≤ 1048577) (k sd : Int) (hk : 0 ≤ k ∧ k ≤ 1000000) (hs : sdOK sd) {id : Nat} {h : Heap} {n : Nat} (hid : id < n) (hh : h id = some (srcB fr nn B k sd)) :
  ∃ r : Int × Int, (0 ≤ r.1 ∧ r.1 ≤ 255 ∧ sdOK r.2) ∧ V.Open En 212 [.ptr id 0 0] h n (.int .i64 r.1) [(id, some (srcB fr nn B (k + 1) r.2))] n := by
 have hl : (B.map bT).length = B.length := List.length_map ..
 have g := hB.get k.toNat
 have g' := hB.get (k + 1 - 1).toNat
 unfold sdOK at hs
 unfold srcB at hh
 refine V.Open.of_evX (st := []) (v := fun r : Int × Int => .int .i64 r.1) (wr := fun r : Int × Int => [(id, some (srcB fr nn B (k + 1) r.2))]) (m := fun _ => n) Tryz.func212 rfl kb ?_
 refine A4 ?_
 refine B7 ?_
 (apply est (u := .int _ _) j3; exact Q0; rfl; exact j4; exact kb; rfl)
 refine A4 ?_
 refine A4 ?_
 refine br ?_ ?_ <;> intro h2_9
 ·refine A4 ?_
  refine B7 ?_
  refine A4 ?_
  refine A4 ?_
  refine B7 ?_
  (refine C2 (D7 (by first | rfl | assumption | (exact B9 bT 0 (by omega))) rfl ?_))
  refine cvA ?_
  refine B7 ?_
  refine B7 ?_
  refine C2 ?_
  (apply est (u := .int _ _) j3; exact Q0; rfl; exact j4; exact kb; rfl)
  refine F6 ?_
  refine A4 ?_
  refine A4 ?_
  refine B7 ?_
  (refine C2 (D7 (by first | rfl | assumption | (exact B9 bT 0 (by omega))) rfl ?_))
  refine cvA ?_
  refine ⟨(_, _), ⟨g'.1, g'.2, ?_⟩, G9 rfl rfl (fun hz j b hj => by
   by_cases e : j = id
   ·subst e; simp (disch := omega) only [↓app0, ↓appC, ↓updS, ↓updN] at hj ⊢; exact hj
   ·have hj2 : h j = some b := (upd_ne h _ e).symm.trans hj
    have : j < n := by
     rcases Nat.lt_or_ge j n with h1 | h1
     ·exact h1
     ·rw [hz j h1] at hj2; cases hj2
    simp (disch := omega) only [↓app0, ↓appC, ↓updN]; exact hj2) (Nat.le_refl _)⟩
  have := E6 (a := sd * 31 + B.getD (k + 1 - 1).toNat 0 + 7) (b := 2147483648) (by omega) (by omega)
  exact this
 ·refine A4 ?_
  refine br ?_ ?_ <;> intro h5_4
  ·exact ⟨(0, sd), ⟨Int.le_refl _, (by dsimp only; omega), hs⟩, G9 rfl rfl (fun hz j b hj => by
    by_cases e : j = id
    ·subst e; simp (disch := omega) only [↓app0, ↓appC, ↓updS, ↓updN] at hj ⊢; exact hj
    ·have hj2 : h j = some b := (upd_ne h _ e).symm.trans hj
     have : j < n := by
      rcases Nat.lt_or_ge j n with h1 | h1
      ·exact h1
      ·rw [hz j h1] at hj2; cases hj2
     simp (disch := omega) only [↓app0, ↓appC, ↓updN]; exact hj2) (Nat.le_refl _)⟩
  ·refine A4 ?_
   refine B7 ?_
   refine B7 ?_
   refine C2 ?_
   (apply est (u := .int _ _) j3; exact Q0; rfl; exact j4; exact kb; rfl)
   refine A4 ?_
   refine C2 ?_
   refine C2 ?_
   have q := E6 (a := sd * 1103515245 + 12345) (b := 2147483648) (by omega) (by omega)
   refine ⟨(_, _), ⟨?_, ?_, q⟩, G9 rfl rfl (fun hz j b hj => by
    by_cases e : j = id
    ·subst e; simp (disch := omega) only [↓app0, ↓appC, ↓updS, ↓updN] at hj ⊢; exact hj
    ·have hj2 : h j = some b := (upd_ne h _ e).symm.trans hj
     have : j < n := by
      rcases Nat.lt_or_ge j n with h1 | h1
      ·exact h1
      ·rw [hz j h1] at hj2; cases hj2
     simp (disch := omega) only [↓app0, ↓appC, ↓updN]; exact hj2) (Nat.le_refl _)⟩
   ·exact (E6 (b := 256) (wrap_q q.1 q.2) (by omega)).1
   ·exact Int.le_of_lt_add_one (E6 (b := 256) (wrap_q q.1 q.2) (by omega)).2
theorem X9 (fr nn : Bool) (B : List Int) (hB : bytes B) (hL : B.length ≤ 1048577) (k sd m : Int) (hk : 0 ≤ k ∧ k ≤ 1000000) (hs : sdOK sd) (hm : 2 ≤ m ∧ m ≤ 256) {id : Nat} {h : Heap} {n : Nat} (hid : id < n) (hh : h id = some (srcB fr nn B k sd)) :
  ∃ r : Int × Int, ((0 ≤ r.1 ∧ r.1 < m) ∧ sdOK r.2) ∧ V.Open En 144 [.ptr id 0 0, .int .i64 m] h n (.int .i64 r.1) [(id, some (srcB fr nn B (k + 1) r.2))] n := by
 refine V.Open.of_evX (st := []) (v := fun r : Int × Int => .int .i64 r.1) (wr := fun r : Int × Int => [(id, some (srcB fr nn B (k + 1) r.2))]) (m := fun _ => n) Tryz.func144 rfl kb ?_
 refine br ?_ ?_ <;> intro h1_1
 ·exact absurd h1_1 (by omega)
 ·refine br ?_ ?_ <;> intro h3_1
  ·refine K6 (o212 fr nn B hB hL k sd hk hs hid hh) rfl j2 ?_
   rintro ⟨v, s2⟩ h4_1
   try dsimp only at h4_1
   refine C2 ?_
   exact ⟨(v.tmod m, s2), ⟨E6 h4_1.1 (by omega), h4_1.2.2⟩, G9 rfl rfl (fun _ _ _ e => e) (Nat.le_refl _)⟩
  ·exact absurd hm.2 h3_1
theorem o141 (fr nn : Bool) (B : List Int) (hB : bytes B) (hL : B.length ≤ 1048577) (k sd : Int) (hk : 0 ≤ k ∧ k ≤ 1000000) (hs : sdOK sd) (m : Int) (hm : 2 ≤ m ∧ m ≤ 100) {id : Nat} {h : Heap} {n : Nat} (hid : id < n) (hh : h id = some (srcB fr nn B k sd)) :
  ∃ r : Bool × Int, sdOK r.2 ∧ V.Open En 141 [.ptr id 0 0, .int .i64 m] h n (.bool r.1) [(id, some (srcB fr nn B (k + 1) r.2))] n := by
 refine V.Open.of_evX (st := []) (v := fun r : Bool × Int => .bool r.1) (wr := fun r : Bool × Int => [(id, some (srcB fr nn B (k + 1) r.2))]) (m := fun _ => n) Tryz.func141 rfl kb ?_
 refine K6 (X9 fr nn B hB hL k sd m hk hs (by omega) ?_ ?_) rfl j2 ?_
 ·exact Q40
 ·exact Q40
 rintro ⟨v, s2⟩ h1_2
 try dsimp only at h1_2
 refine B7 ?_
 refine br ?_ ?_ <;> intro h1_5
 ·first | exact ⟨(true, s2), h1_2.2, G9 rfl rfl (fun _ _ _ e => e) (Nat.le_refl _)⟩ | exact ⟨(false, s2), h1_2.2, G9 rfl rfl (fun _ _ _ e => e) (Nat.le_refl _)⟩
 ·first | exact ⟨(true, s2), h1_2.2, G9 rfl rfl (fun _ _ _ e => e) (Nat.le_refl _)⟩ | exact ⟨(false, s2), h1_2.2, G9 rfl rfl (fun _ _ _ e => e) (Nat.le_refl _)⟩
def sV (s : ByteArray) : List V := [.str s]
theorem o281 (fr nn : Bool) (B : List Int) (hB : bytes B) (hL : B.length ≤ 1048577) (k sd : Int) (a b c : ByteArray) (hk : 0 ≤ k ∧ k ≤ 1000000) (hs : sdOK sd) {id id2 : Nat} {h : Heap} {n : Nat} (hid : id < n) (hne : id ≠ id2) (hh : h id = some (srcB fr nn B k sd))
  (hh2 : h id2 = some ⟨[a, b, c].map sV, 1, 9⟩) :
  ∃ r : ByteArray × Int, (r.1 ∈ [a, b, c] ∧ sdOK r.2) ∧ V.Open En 281 [.ptr id 0 0, .view id2 0 3] h n (.str r.1) [(id, some (srcB fr nn B (k + 1) r.2))] n := by
 refine V.Open.of_evX (st := []) (v := fun r : ByteArray × Int => .str r.1) (wr := fun r : ByteArray × Int => [(id, some (srcB fr nn B (k + 1) r.2))]) (m := fun _ => n) Tryz.func281 rfl kb ?_
 refine br ?_ ?_ <;> intro h1_2
 ·exact absurd h1_2 (by omega)
 ·refine K6 (X9 fr nn B hB hL k sd 3 hk hs (by decide) hid hh) rfl j2 ?_
  rintro ⟨v, s2⟩ h3_4
  try dsimp only at h3_4
  (refine mem (by (first | ((simp (disch := omega) only [↓app0, ↓appC, ↓updS, ↓updN]) <;> first | rfl | assumption | exact hh2) | assumption | rfl)) ⟨rfl, C2 ?_⟩)
  refine A4 ?_ (by (first | ((simp (disch := omega) only [↓app0, ↓appC, ↓updS, ↓updN]) <;> first | rfl | assumption | exact hh2) | assumption | rfl)) (by (exact B9 sV ⟨#[]⟩ (show 0 + v.toNat < 3 by omega)))
  exact ⟨([a, b, c].getD (0 + v.toNat) ⟨#[]⟩, s2), ⟨by
   have hv : 0 + v.toNat < [a, b, c].length := (show 0 + v.toNat < 3 by omega)
   dsimp only
   rw [List.getD_eq_getElem?_getD, List.getElem?_eq_getElem hv]
   exact List.getElem_mem _, h3_4.2⟩, G9 rfl rfl (fun _ _ _ e => e) (Nat.le_refl _)⟩
def nmA : ByteArray := ⟨#[97]⟩
def nmB : ByteArray := ⟨#[98]⟩
def nmL : ByteArray := ⟨#[108, 111, 99, 107]⟩
def Rq.good (r : Rq) : Prop := (0 ≤ r.cl ∧ r.cl ≤ 2) ∧ (1 ≤ r.st ∧ r.st ≤ 5) ∧ (1 ≤ r.kd ∧ r.kd ≤ 4) ∧ r.nm ∈ [nmA, nmB, nmL] ∧ ((r.kd = 1 ∨ r.kd = 3) ∧ 1 ≤ r.le ∧ r.le ≤ 30 ∨ ¬ (r.kd = 1 ∨ r.kd = 3) ∧ r.le = 0)
theorem o236 (fr nn : Bool) (B : List Int) (hB : bytes B) (hL : B.length ≤ 1048577) (k sd : Int) (hk : 0 ≤ k ∧ k ≤ 900000) (hs : sdOK sd) {id : Nat} {h : Heap} {n : Nat} (hid : id < n) (hh : h id = some (srcB fr nn B k sd)) :
  ∃ r : Rq × Int × Int, (r.1.good ∧ (k ≤ r.2.1 ∧ r.2.1 ≤ k + 6) ∧ sdOK r.2.2) ∧ V.Open En 236 [.ptr id 0 0] h n (.agg r.1.V) [(id, some (srcB fr nn B r.2.1 r.2.2))] (n + 3) := by
 refine V.Open.of_evX (st := []) (v := fun r : Rq × Int × Int => .agg r.1.V) (wr := fun r : Rq × Int × Int => [(id, some (srcB fr nn B r.2.1 r.2.2))]) (m := fun _ => n + 3) Tryz.func236 rfl kb ?_
 refine K6 (X9 fr nn B hB hL k sd 3 ?_ hs (by decide) ?_ ?_) rfl j2 ?_
 ·exact Q40
 ·exact Q40
 ·exact Q40
 rintro ⟨v1, s1⟩ h1_1
 try dsimp only at h1_1
 refine K6 (X9 fr nn B hB hL (k + 1) s1 5 ?_ h1_1.2 (by decide) ?_ ?_) rfl j2 ?_
 ·exact Q40
 ·exact Q40
 ·exact Q40
 rintro ⟨v2, s2⟩ h1_3
 try dsimp only at h1_3
 refine B7 ?_
 refine K6 (X9 fr nn B hB hL (k + 1 + 1) s2 4 ?_ h1_3.2 (by decide) ?_ ?_) rfl j2 ?_
 ·exact Q40
 ·exact Q40
 ·exact Q40
 rintro ⟨v3, s3⟩ h1_6
 try dsimp only at h1_6
 refine B7 ?_
 refine D3 (es := [[.str _], [.str _], [.str _]]) j4 kz kb rfl rfl ?_
 refine K6 (o281 fr nn B hB hL (k + 1 + 1 + 1) s3 nmA nmB nmL (id2 := n + 1) ?_ h1_6.2 ?_ ?_ ?_ ?_) rfl j2 ?_
 ·exact Q40
 ·exact Q40
 ·exact Q40
 ·exact Q40
 ·exact Q40
 rintro ⟨nm, s4⟩ h1_10
 try dsimp only at h1_10
 (apply est (u := .agg [.int _ _, .int _ _, .int _ _, .int _ _, .str _]) j3; exact Q0; rfl; exact j4; exact kb; rfl)
 refine A4 ?_
 refine br ?_ ?_ <;> intro h2_2
 ·refine K6 (X9 fr nn B hB hL (k + 1 + 1 + 1 + 1) s4 30 ?_ h1_10.2 (by decide) ?_ ?_) rfl j2 ?_
  ·exact Q40
  ·exact Q40
  ·exact Q40
  rintro ⟨v5, s5⟩ h3_1
  try dsimp only at h3_1
  refine B7 ?_
  (apply est (u := .int _ _) j3; exact Q0; rfl; exact j4; exact kb; rfl)
  (apply D2 (vs := [.int _ _, .int _ _, .int _ _, .int _ _, .str _]) j2; exact Q0; rfl; rfl; exact kb; rfl)
  (apply est (u := .agg [.int _ _, .int _ _, .int _ _, .int _ _, .str _]) j3; exact Q0; rfl; exact j4; exact kb; rfl)
  first
   | exact ⟨(⟨v1, 1 + v2, 1 + v3, 1 + v5, nm⟩, k + 1 + 1 + 1 + 1 + 1, s5), ⟨⟨by dsimp only; omega, by dsimp only; omega, by dsimp only; omega, h1_10.1, by dsimp only; omega⟩, by dsimp only; omega, h3_1.2⟩, G9 (A0 (A2 rfl (by simp (disch := omega) only [↓app0, ↓appC, ↓updS, ↓updN]; rfl) j2 kb rfl) A1) rfl (fun hz j b hj => by
   by_cases e : j = id
   ·subst e; simp (disch := omega) only [↓app0, ↓appC, ↓updS, ↓updN] at hj ⊢; exact hj
   ·have hj2 : h j = some b := (upd_ne h _ e).symm.trans hj
    have : j < n := by
     rcases Nat.lt_or_ge j n with h1 | h1
     ·exact h1
     ·rw [hz j h1] at hj2; cases hj2
    simp (disch := omega) only [↓app0, ↓appC, ↓updN]; exact hj2) (Nat.le_refl _)⟩
   | exact ⟨(⟨v1, 1 + v2, 1 + v3, 0, nm⟩, k + 1 + 1 + 1 + 1, s4), ⟨⟨by dsimp only; omega, by dsimp only; omega, by dsimp only; omega, h1_10.1, by dsimp only; omega⟩, by dsimp only; omega, h1_10.2⟩, G9 (A0 (A2 rfl (by simp (disch := omega) only [↓app0, ↓appC, ↓updS, ↓updN]; rfl) j2 kb rfl) A1) rfl (fun hz j b hj => by
   by_cases e : j = id
   ·subst e; simp (disch := omega) only [↓app0, ↓appC, ↓updS, ↓updN] at hj ⊢; exact hj
   ·have hj2 : h j = some b := (upd_ne h _ e).symm.trans hj
    have : j < n := by
     rcases Nat.lt_or_ge j n with h1 | h1
     ·exact h1
     ·rw [hz j h1] at hj2; cases hj2
    simp (disch := omega) only [↓app0, ↓appC, ↓updN]; exact hj2) (Nat.le_refl _)⟩
 ·refine A4 ?_
  refine br ?_ ?_ <;> intro h2_6
  ·refine K6 (X9 fr nn B hB hL (k + 1 + 1 + 1 + 1) s4 30 ?_ h1_10.2 (by decide) ?_ ?_) rfl j2 ?_
   ·exact Q40
   ·exact Q40
   ·exact Q40
   rintro ⟨v5, s5⟩ h3_1
   try dsimp only at h3_1
   refine B7 ?_
   (apply est (u := .int _ _) j3; exact Q0; rfl; exact j4; exact kb; rfl)
   (apply D2 (vs := [.int _ _, .int _ _, .int _ _, .int _ _, .str _]) j2; exact Q0; rfl; rfl; exact kb; rfl)
   (apply est (u := .agg [.int _ _, .int _ _, .int _ _, .int _ _, .str _]) j3; exact Q0; rfl; exact j4; exact kb; rfl)
   first
    | exact ⟨(⟨v1, 1 + v2, 1 + v3, 1 + v5, nm⟩, k + 1 + 1 + 1 + 1 + 1, s5), ⟨⟨by dsimp only; omega, by dsimp only; omega, by dsimp only; omega, h1_10.1, by dsimp only; omega⟩, by dsimp only; omega, h3_1.2⟩, G9 (A0 (A2 rfl (by simp (disch := omega) only [↓app0, ↓appC, ↓updS, ↓updN]; rfl) j2 kb rfl) A1) rfl (fun hz j b hj => by
    by_cases e : j = id
    ·subst e; simp (disch := omega) only [↓app0, ↓appC, ↓updS, ↓updN] at hj ⊢; exact hj
    ·have hj2 : h j = some b := (upd_ne h _ e).symm.trans hj
     have : j < n := by
      rcases Nat.lt_or_ge j n with h1 | h1
      ·exact h1
      ·rw [hz j h1] at hj2; cases hj2
     simp (disch := omega) only [↓app0, ↓appC, ↓updN]; exact hj2) (Nat.le_refl _)⟩
    | exact ⟨(⟨v1, 1 + v2, 1 + v3, 0, nm⟩, k + 1 + 1 + 1 + 1, s4), ⟨⟨by dsimp only; omega, by dsimp only; omega, by dsimp only; omega, h1_10.1, by dsimp only; omega⟩, by dsimp only; omega, h1_10.2⟩, G9 (A0 (A2 rfl (by simp (disch := omega) only [↓app0, ↓appC, ↓updS, ↓updN]; rfl) j2 kb rfl) A1) rfl (fun hz j b hj => by
    by_cases e : j = id
    ·subst e; simp (disch := omega) only [↓app0, ↓appC, ↓updS, ↓updN] at hj ⊢; exact hj
    ·have hj2 : h j = some b := (upd_ne h _ e).symm.trans hj
     have : j < n := by
      rcases Nat.lt_or_ge j n with h1 | h1
      ·exact h1
      ·rw [hz j h1] at hj2; cases hj2
     simp (disch := omega) only [↓app0, ↓appC, ↓updN]; exact hj2) (Nat.le_refl _)⟩
  ·(apply D2 (vs := [.int _ _, .int _ _, .int _ _, .int _ _, .str _]) j2; exact Q0; rfl; rfl; exact kb; rfl)
   (apply est (u := .agg [.int _ _, .int _ _, .int _ _, .int _ _, .str _]) j3; exact Q0; rfl; exact j4; exact kb; rfl)
   first
    | exact ⟨(⟨v1, 1 + v2, 1 + v3, 1 + v5, nm⟩, k + 1 + 1 + 1 + 1 + 1, s5), ⟨⟨by dsimp only; omega, by dsimp only; omega, by dsimp only; omega, h1_10.1, by dsimp only; omega⟩, by dsimp only; omega, h3_1.2⟩, G9 (A0 (A2 rfl (by simp (disch := omega) only [↓app0, ↓appC, ↓updS, ↓updN]; rfl) j2 kb rfl) A1) rfl (fun hz j b hj => by
    by_cases e : j = id
    ·subst e; simp (disch := omega) only [↓app0, ↓appC, ↓updS, ↓updN] at hj ⊢; exact hj
    ·have hj2 : h j = some b := (upd_ne h _ e).symm.trans hj
     have : j < n := by
      rcases Nat.lt_or_ge j n with h1 | h1
      ·exact h1
      ·rw [hz j h1] at hj2; cases hj2
     simp (disch := omega) only [↓app0, ↓appC, ↓updN]; exact hj2) (Nat.le_refl _)⟩
    | exact ⟨(⟨v1, 1 + v2, 1 + v3, 0, nm⟩, k + 1 + 1 + 1 + 1, s4), ⟨⟨by dsimp only; omega, by dsimp only; omega, by dsimp only; omega, h1_10.1, by dsimp only; omega⟩, by dsimp only; omega, h1_10.2⟩, G9 (A0 (A2 rfl (by simp (disch := omega) only [↓app0, ↓appC, ↓updS, ↓updN]; rfl) j2 kb rfl) A1) rfl (fun hz j b hj => by
    by_cases e : j = id
    ·subst e; simp (disch := omega) only [↓app0, ↓appC, ↓updS, ↓updN] at hj ⊢; exact hj
    ·have hj2 : h j = some b := (upd_ne h _ e).symm.trans hj
     have : j < n := by
      rcases Nat.lt_or_ge j n with h1 | h1
      ·exact h1
      ·rw [hz j h1] at hj2; cases hj2
     simp (disch := omega) only [↓app0, ↓appC, ↓updN]; exact hj2) (Nat.le_refl _)⟩
theorem Rq.good.ok {r : Rq} (h : r.good) : r.OK := by
 obtain ⟨h1, h2, h3, h4, h5⟩ := h
 refine ⟨by omega, by omega, h3, by omega, ?_, by omega⟩
 have hw : ∀ s : ByteArray, s ∈ [nmA, nmB, nmL] → opName s := by
  intro s hs
  simp only [List.mem_cons, List.not_mem_nil, or_false] at hs
  rcases hs with rfl | rfl | rfl
  ·refine ⟨by decide, by decide, by decide, .inl (by decide), fun j hj => ?_⟩
   have : j = 0 := by (have : j < 1 := hj); omega
   subst this; exact .inl (.inl (by decide))
  ·refine ⟨by decide, by decide, by decide, .inl (by decide), fun j hj => ?_⟩
   have : j = 0 := by (have : j < 1 := hj); omega
   subst this; exact .inl (.inl (by decide))
  ·refine ⟨by decide, by decide, by decide, .inl (by decide), fun j hj => ?_⟩
   have h4 : j < 4 := hj
   match j, h4 with
   | 0, _ => exact .inl (.inl (by decide))
   | 1, _ => exact .inl (.inl (by decide))
   | 2, _ => exact .inl (.inl (by decide))
   | 3, _ => exact .inl (.inl (by decide))
 exact hw _ h4
open Go Go.V
set_option linter.unusedVariables false
set_option linter.unusedSimpArgs false
set_option maxRecDepth 20000
set_option maxHeartbeats 4000000
theorem P5 (id : Int) (t : ByteArray) : (mk id t).size = 8 := by
 unfold mk; rw [ByteArray.size_extract, E2]; rfl
theorem mk_size2 (id : Int) (t : ByteArray) : (mk id t).size ≤ 1000 := by rw [P5]; decide
def rdI (L : List Rg) (i : Int) : Prop := ∀ j, j < L.length → ((L.getD j Rg0).OK ∧ (L.getD j Rg0).fr < 4 ∧ (L.getD j Rg0).mc = rdM (L.getD j Rg0).fr (L.getD j Rg0).vl) ∧ (0 < j → (L.getD (j - 1) Rg0).fr < (L.getD j Rg0).fr) ∧ (L.getD j Rg0).fr < i
theorem rdI_more {L : List Rg} {i v : Int} (h : rdI L i) (hi : 0 ≤ i ∧ i ≤ 3) (hv : 0 ≤ v ∧ v < 100) : rdI (L ++ [⟨i, v, rdM i v⟩]) (i + 1) := by
 intro j hj
 rw [List.length_append] at hj
 have hj : j < L.length + 1 := hj
 by_cases e : j = L.length
 ·subst e
  have e1 : (L ++ [(⟨i, v, rdM i v⟩ : Rg)]).getD L.length Rg0 = ⟨i, v, rdM i v⟩ := by simp
  rw [e1]
  refine ⟨⟨⟨by dsimp only; omega, by dsimp only; omega, P5 _ _⟩, by dsimp only; omega, rfl⟩, fun h0 => ?_, by dsimp only; omega⟩
  have e2 : (L ++ [(⟨i, v, rdM i v⟩ : Rg)]).getD (L.length - 1) Rg0 = L.getD (L.length - 1) Rg0 := by simp [List.getElem?_append_left (show L.length - 1 < L.length by omega)]
  rw [e2]; exact (h (L.length - 1) (by omega)).2.2
 ·have e1 : (L ++ [(⟨i, v, rdM i v⟩ : Rg)]).getD j Rg0 = L.getD j Rg0 := by simp [List.getElem?_append_left (show j < L.length by omega)]
  have e2 : (L ++ [(⟨i, v, rdM i v⟩ : Rg)]).getD (j - 1) Rg0 = L.getD (j - 1) Rg0 := by simp [List.getElem?_append_left (show j - 1 < L.length by omega)]
  rw [e1, e2]
  have q := h j (by omega)
  exact ⟨q.1, q.2.1, by have := q.2.2; omega⟩
theorem rdI_time {L : List Rg} {i : Int} (h : rdI L i) (hl : L.length = 3) : timeOK rdM 4 L := ⟨by rw [hl]; rfl, fun j hj => ⟨(h j hj).1, (h j hj).2.1⟩⟩
structure RS where
 i : Nat
 L : List Rg
 b : Nat
 m : Nat
 k : Int
 s : Int
 g : Heap
structure RSI (B : List Int) (fr nn : Bool) (sk k0 : Int) (id : Nat) (h : Heap) (n : Nat) (a : RS) : Prop where
 il : a.i ≤ 4
 ll : (a.L.length : Int) = if sk < (a.i : Int) then (a.i : Int) - 1 else a.i
 ok : rdI a.L a.i
 src : a.g id = some (srcB fr nn B a.k a.s)
 out : a.g a.b = some ⟨a.L.map Rg.V, 3, 273⟩
 bm : n ≤ a.b ∧ a.b < a.m
 kk : k0 ≤ a.k ∧ a.k ≤ k0 + 1 + (a.i : Int)
 ss : sdOK a.s
 fr : ∀ j, j < n → j ≠ id → a.g j = h j
 ch : Ch h a.g
theorem o237 (fr nn : Bool) (B : List Int) (hB : bytes B) (hL : B.length ≤ 1048577) (k0 s0 : Int) (hk : 0 ≤ k0 ∧ k0 ≤ 900000) (hs : sdOK s0) {id : Nat} {h : Heap} {n : Nat} (hid : id < n) (hh : h id = some (srcB fr nn B k0 s0)) :
  OpenM En 237 [.ptr id 0 0, .int .i64 4] h n (fun v g m => ∃ (L : List Rg) (b : Nat) (k s : Int), v = .view b 0 L.length ∧ g b = some ⟨L.map Rg.V, 3, 273⟩ ∧ (n ≤ b ∧ b < m) ∧ timeOK rdM 4 L ∧ L.length = 3 ∧ (k0 ≤ k ∧ k ≤ k0 + 5) ∧ sdOK s ∧ g id = some (srcB fr nn B k s) ∧ (∀ j, j < n → j ≠ id → g j = h j) ∧ Ch h g) := by
 refine OpenM.of_ev (st := [6]) Tryz.func237 rfl kb ?_
 refine B7 ?_
 refine C2 ?_
 refine D3 (es := []) j4 kz kb rfl rfl ?_
 refine K6 (X9 fr nn B hB hL k0 s0 4 (by omega) hs (by decide) ?_ ?_) rfl j2 ?_
 ·exact Q37
 ·exact Q37
 rintro ⟨sk, s1⟩ h3_2
 try dsimp only at h3_2
 refine U7 fun g0 hg0 => ?_
 refine A9 (fun (a : RS) => [.ptr id 0 0, .int .i64 4, .unk, .unk, .unk, .int .i64 1, .view a.b 0 a.L.length, .int .i64 sk, .int .i64 (a.i : Int)]) (fun (a : RS) => a.g) (fun (a : RS) => a.m) (fun (a : RS) => RSI B fr nn sk k0 id h n a) (fun (a : RS) => 4 - a.i) ⟨0, [], n, n + 1, k0 + 1, s1, g0⟩ ?_ ?_ ?_ ?_ ?_
 ·refine ⟨Nat.zero_le _, ?_, fun j hj => absurd hj (Nat.not_lt_zero j), ?_, ?_, by dsimp only; omega, by dsimp only; omega, h3_2.2, ?_, ?_⟩
  ·dsimp only; rw [if_neg (by omega)]; rfl
  ·dsimp only; rw [hg0]; exact Q1
  ·dsimp only; rw [hg0]; exact Q1
  ·intro j hj hne; dsimp only; rw [hg0]; (simp (disch := omega) only [↓app0, ↓appC, ↓updS, ↓updN])
  ·dsimp only; rw [hg0]; repeat first | exact hch | exact Ch.refl _ | refine Ch.app ?_
 ·(repeat first | exact LE.nil _ | refine LE.unk _ _ ?_ | refine LE.eq _ _ _ rfl ?_)
 ·exact LessH.refl _
 ·exact Nat.le_refl _
 intro ⟨i, L, b, m, k, s, g⟩ hI ih
 obtain ⟨il, ll, hok, hsrc, hout, hbm, hkk, hss, hfr, hch⟩ := hI
 dsimp only at il ll hok hsrc hout hbm hkk hss hfr hch ⊢
 have hll3 : L.length ≤ 4 := by split at ll <;> omega
 refine A7 (st := [6]) ?_
 refine B7 ?_
 refine B7 ?_
 refine br ?_ ?_ <;> intro h5_5
 ·refine br ?_ ?_ <;> intro h7_2
  ·refine br ?_ (fun h => absurd ((by decide)) h)
   intro h7_5
   refine E1 fun GG hGG => ?_
   refine B7 ?_
   first
   | (
     refine C6 (ih ⟨i + 1, L, b, m, k, s, GG⟩ ⟨by dsimp only; omega, ?_, ?_, ?_, ?_, by dsimp only; omega, by dsimp only; omega, ?_, ?_, ?_⟩ (by dsimp only; omega)) (by (repeat first | exact LE.nil _ | refine LE.unk _ _ ?_ | refine LE.eq _ _ _ rfl ?_)) (LessH.refl _) (Nat.le_refl _)
     · dsimp only; split at ll <;> split <;> omega
     · dsimp only; intro j hj; have q := hok j hj; exact ⟨q.1, q.2.1, by have := q.2.2; omega⟩
     · dsimp only; rw [hGG]; exact hsrc
     · dsimp only; rw [hGG]; exact hout
     · exact hss
     · dsimp only; rw [hGG]; exact hfr
     · dsimp only; rw [hGG]; exact hch)
   | (
     refine C6 (ih ⟨i + 1, L ++ [⟨(i : Int), v, rdM i v⟩], m + 1, m + 1 + 1, k + 1, s2, GG⟩ ⟨by dsimp only; omega, ?_, ?_, ?_, ?_, by dsimp only; omega, by dsimp only; omega, ?_, ?_, ?_⟩ (by dsimp only; omega)) (by (repeat first | exact LE.nil _ | refine LE.unk _ _ ?_ | refine LE.eq _ _ _ rfl ?_ | refine LE.eq _ _ _ (congrArg (V.view _ 0) (by simp)) ?_)) (LessH.refl _) (Nat.le_refl _)
     · dsimp only; rw [List.length_append]; show ((L.length + 1 : Nat) : Int) = _; split at ll <;> split <;> omega
     · exact rdI_more hok (by omega) (by omega)
     · dsimp only; rw [hGG]; exact Q1
     · dsimp only; rw [hGG, List.map_append]; (simp (disch := omega) only [↓app0, ↓appC, ↓updS, ↓updN, List.drop_zero]); rfl
     · exact h8_1.2
     · intro j hj hne; dsimp only; rw [hGG]; (simp (disch := omega) only [↓app0, ↓appC, ↓updS, ↓updN]); exact hfr j hj hne
     · dsimp only; rw [hGG]; repeat first | exact hch | exact Ch.refl _ | refine Ch.app ?_)
  ·refine K6 (X9 fr nn B hB hL k s 100 (by omega) hss (by decide) ?_ hsrc) rfl j2 ?_
   ·exact Q37
   rintro ⟨v, s2⟩ h8_1
   try dsimp only at h8_1
   refine C8 (r224 (i : Int) v) rfl rfl rfl ?_
   refine D3 (es := [[.int _ _, .int _ _, .str _]]) j4 kz kb rfl rfl ?_
   (apply eap (s' := 32) (es := [[.int _ _, .int _ _, .str _]]) rfl rfl; exact Q1; exact j2; (first | rfl | (rw [List.length_map]; done) | simp); exact j2; exact kz; (first | rfl | (apply E0 rfl; exact Q1; (first | exact Nat.le_refl _ | omega); rfl)); exact Q44; exact Q33; exact Q33)
   refine E1 fun GG hGG => ?_
   refine B7 ?_
   first
   | (
     refine C6 (ih ⟨i + 1, L, b, m, k, s, GG⟩ ⟨by dsimp only; omega, ?_, ?_, ?_, ?_, by dsimp only; omega, by dsimp only; omega, ?_, ?_, ?_⟩ (by dsimp only; omega)) (by (repeat first | exact LE.nil _ | refine LE.unk _ _ ?_ | refine LE.eq _ _ _ rfl ?_)) (LessH.refl _) (Nat.le_refl _)
     · dsimp only; split at ll <;> split <;> omega
     · dsimp only; intro j hj; have q := hok j hj; exact ⟨q.1, q.2.1, by have := q.2.2; omega⟩
     · dsimp only; rw [hGG]; exact hsrc
     · dsimp only; rw [hGG]; exact hout
     · exact hss
     · dsimp only; rw [hGG]; exact hfr
     · dsimp only; rw [hGG]; exact hch)
   | (
     refine C6 (ih ⟨i + 1, L ++ [⟨(i : Int), v, rdM i v⟩], m + 1, m + 1 + 1, k + 1, s2, GG⟩ ⟨by dsimp only; omega, ?_, ?_, ?_, ?_, by dsimp only; omega, by dsimp only; omega, ?_, ?_, ?_⟩ (by dsimp only; omega)) (by (repeat first | exact LE.nil _ | refine LE.unk _ _ ?_ | refine LE.eq _ _ _ rfl ?_ | refine LE.eq _ _ _ (congrArg (V.view _ 0) (by simp)) ?_)) (LessH.refl _) (Nat.le_refl _)
     · dsimp only; rw [List.length_append]; show ((L.length + 1 : Nat) : Int) = _; split at ll <;> split <;> omega
     · exact rdI_more hok (by omega) (by omega)
     · dsimp only; rw [hGG]; exact Q1
     · dsimp only; rw [hGG, List.map_append]; (simp (disch := omega) only [↓app0, ↓appC, ↓updS, ↓updN, List.drop_zero]); rfl
     · exact h8_1.2
     · intro j hj hne; dsimp only; rw [hGG]; (simp (disch := omega) only [↓app0, ↓appC, ↓updS, ↓updN]); exact hfr j hj hne
     · dsimp only; rw [hGG]; repeat first | exact hch | exact Ch.refl _ | refine Ch.app ?_)
 ·have hl3 : L.length = 3 := by split at ll <;> omega
  exact fiM rfl hch ⟨L, b, k, s, rfl, hout, hbm, rdI_time hok hl3, hl3, by omega, hss, hsrc, hfr, hch⟩
theorem rd8 {L : List Rg} (h : timeOK rdM 4 L) : ∀ a ∈ L, a.mc.size = 8 := fun a ha => by
 obtain ⟨i, hi, rfl⟩ := List.getElem_of_mem ha
 have := (h.2 i hi).1.1.2.2
 rwa [show L.getD i Rg0 = L[i] by simp [hi]] at this
theorem o178 (fr nn : Bool) (B : List Int) (hB : bytes B) (hL : B.length ≤ 1048577) (k0 s0 : Int) (hk : 0 ≤ k0 ∧ k0 ≤ 800000) (hs : sdOK s0) {id : Nat} {h : Heap} {n : Nat} (hid : id < n) (hh : h id = some (srcB fr nn B k0 s0)) :
  OpenM En 178 [.ptr id 0 0, .int .i64 4] h n (fun v g m => ∃ (b : ByteArray) (k s : Int), v = .str b ∧ bodyOK rdM 4 b ∧ b ≠ ⟨#[]⟩ ∧ b.size ≤ 200 ∧ (k0 ≤ k ∧ k ≤ k0 + 12) ∧ sdOK s ∧ g id = some (srcB fr nn B k s) ∧ (∀ j, j < n → j ≠ id → g j = h j) ∧ Ch h g) := by
 refine OpenM.of_ev (st := []) Tryz.func178 rfl kb ?_
 refine K6 (o141 fr nn B hB hL k0 s0 (by omega) hs 6 (by omega) hid hh) rfl j2 ?_
 rintro ⟨c, s1⟩ h1_1
 try dsimp only at h1_1
 cases c
 ·refine K6 (o236 fr nn B hB hL (k0 + 1) s1 (by omega) h1_1 ?_ ?_) rfl j2 ?_
  ·exact Q37
  ·exact Q37
  rintro ⟨rq, k2, s2⟩ h3_1
  try dsimp only at h3_1
  refine eopO (o237 fr nn B hB hL k2 s2 (by omega) h3_1.2.2 ?_ ?_) rfl j2 ?_
  ·exact Q37
  ·exact Q37
  rintro v1 wr1 m1 ⟨L, b, k3, s3, rfl, hb1, hbm, htm, hl3, hk3, hs3, hsrc, hfr, hc1⟩ hle1
  apply T3 [b] (r235 rq L true (by have := h3_1.1.ok.2.2.2.2.1.1; omega) (by omega) (rd8 htm)) rfl rfl rfl
  ·exact SnapL.cons _ _ _ _ (SnapC.agg (.cons _ _ _ _ (.bool _) (.cons _ _ _ _ (.int _ _) (.cons _ _ _ _ (.int _ _) (.cons _ _ _ _ (.int _ _) (.cons _ _ _ _ (.int _ _) (.cons _ _ _ _ (.str _) (.cons _ _ _ _ (A3 (b := ⟨L.map Rg.V, 3, 273⟩) (L.map Rg.T) (List.mem_singleton.2 rfl) hb1 (G4 _).symm (List.length_map ..).symm) .nil)))))))) SnapL.nil
  (apply esg j4; rfl; (intro s e; cases e); exact rowsBf true _)
  have hz := btW_size (x := ⟨false, rq, L⟩) rfl (rd8 htm)
  have hnm : rq.nm.size ≤ 12 := h3_1.1.ok.2.2.2.2.1.1
  dsimp only at hz
  refine fiM rfl (by repeat first | exact Ch.refl _ | refine Ch.app ?_) ⟨V.strOw (btWL rq L), k3, s3, rfl, ?_, ?_, ?_, by omega, hs3, hsrc, fun j hj hne => ?_, by repeat first | exact Ch.refl _ | refine Ch.app ?_⟩
  ·rw [X4]; exact btW_body h3_1.1.ok rfl htm (by show L.length ≤ 7; omega)
  ·rw [X4]; intro e; rw [e] at hz; have : (0 : Nat) = 8 + 13 * L.length + rq.nm.size := hz; omega
  ·rw [X4]; omega
  ·rw [hfr j (by omega) hne]; (simp (disch := omega) only [↓app0, ↓appC, ↓updS, ↓updN])
 ·exact fiM rfl (by repeat first | exact Ch.refl _ | refine Ch.app ?_) ⟨nullT, k0 + 1, s1, rfl, null_body 4, by decide, by decide, by omega, h1_1, by exact Q1, fun j hj hne => by (simp (disch := omega) only [↓app0, ↓appC, ↓updS, ↓updN]), by repeat first | exact Ch.refl _ | refine Ch.app ?_⟩
open Go Go.V
set_option linter.unusedVariables false
set_option linter.unusedSimpArgs false
set_option maxRecDepth 20000
set_option maxHeartbeats 4000000
noncomputable def prM (vw sq : Int) (b : ByteArray) (i : Int) : Msg := sgnM i ⟨2, vw, sq, 0, dgB b, ⟨#[]⟩, ⟨#[]⟩⟩
theorem P6 (b : ByteArray) : (dgB b).size = 32 := E2 _
theorem prM_ok {vw sq i : Int} {b : ByteArray} (hv : 0 ≤ vw ∧ vw ≤ 20) (hs : 1 ≤ sq ∧ sq ≤ 8) (hi : 0 ≤ i ∧ i ≤ 3) : sgd mk bare 4 (prM vw sq b i) := by
 refine ⟨⟨by show (1 : Int) ≤ 2 ∧ (2 : Int) ≤ 5; decide, hv, by show 0 ≤ i ∧ i ≤ 6; omega, P5 _ _, by show 0 ≤ 20000; decide, ?_⟩, by show i < 4; omega, rfl⟩
 rw [if_pos (by show (2 : Int) ≤ 3; decide)]
 exact ⟨hs, P6 b, ⟨fun h => absurd rfl h, fun h => absurd h (by show ¬ (2 : Int) = 1; decide)⟩⟩
def prI (vw sq : Int) (b : ByteArray) (L : List Msg) (i : Int) : Prop := ∀ j, j < L.length → (∃ x, (0 ≤ x ∧ x ≤ 3) ∧ L.getD j Msg0 = prM vw sq b x) ∧ (0 < j → (L.getD (j - 1) Msg0).fr < (L.getD j Msg0).fr) ∧ (L.getD j Msg0).fr < i
theorem prI_more {vw sq : Int} {b : ByteArray} {L : List Msg} {i : Int} (h : prI vw sq b L i) (hi : 0 ≤ i ∧ i ≤ 3) : prI vw sq b (L ++ [prM vw sq b i]) (i + 1) := by
 intro j hj
 rw [List.length_append] at hj
 have hj : j < L.length + 1 := hj
 by_cases e : j = L.length
 ·subst e
  have e1 : (L ++ [prM vw sq b i]).getD L.length Msg0 = prM vw sq b i := by simp
  rw [e1]
  refine ⟨⟨i, hi, rfl⟩, fun h0 => ?_, by show i < i + 1; omega⟩
  have e2 : (L ++ [prM vw sq b i]).getD (L.length - 1) Msg0 = L.getD (L.length - 1) Msg0 := by simp [List.getElem?_append_left (show L.length - 1 < L.length by omega)]
  rw [e2]; exact (h (L.length - 1) (by omega)).2.2
 ·have e1 : (L ++ [prM vw sq b i]).getD j Msg0 = L.getD j Msg0 := by simp [List.getElem?_append_left (show j < L.length by omega)]
  have e2 : (L ++ [prM vw sq b i]).getD (j - 1) Msg0 = L.getD (j - 1) Msg0 := by simp [List.getElem?_append_left (show j - 1 < L.length by omega)]
  rw [e1, e2]
  have q := h j (by omega)
  exact ⟨q.1, q.2.1, by have := q.2.2; omega⟩
structure CtG (vw sq : Int) (c : Ct) : Prop where
 ok : ctOK mk bare rdM dgB 4 c
 evw : c.vw = vw
 esq : c.sq = sq
 ne : c.bd ≠ ⟨#[]⟩
 bz : c.bd.size ≤ 200
 ln : c.ps.length = 3
 ps : ∀ i, i < c.ps.length → ∃ x, (0 ≤ x ∧ x ≤ 3) ∧ c.ps.getD i Msg0 = prM vw sq c.bd x
theorem prI_ct {vw sq i : Int} {b : ByteArray} {L : List Msg} (h : prI vw sq b L i) (hl : L.length = 3) (hb : bodyOK rdM 4 b) (hn : b ≠ ⟨#[]⟩) (hz : b.size ≤ 200) (hv : 0 ≤ vw ∧ vw ≤ 20) (hs : 1 ≤ sq ∧ sq ≤ 8) : CtG vw sq ⟨b, L⟩ := by
 obtain ⟨⟨x0, hx0, e0⟩, _⟩ := h 0 (by omega)
 refine ⟨⟨by show ((L.length : Nat) : Int) = quo 4; rw [hl]; rfl, by show b.size ≤ 20000; omega, hb, fun j hj => ?_⟩, by show (L.getD 0 Msg0).vw = vw; rw [e0]; rfl, by show (L.getD 0 Msg0).sq = sq; rw [e0]; rfl, hn, hz, hl, fun j hj => (h j hj).1⟩
 obtain ⟨⟨x, hx, e⟩, h2, h3⟩ := h j hj
 show (L.getD j Msg0).kd = 2 ∧ sgd mk bare 4 (L.getD j Msg0) ∧ (L.getD j Msg0).dg = dgB b ∧ (L.getD j Msg0).vw = (L.getD 0 Msg0).vw ∧ (L.getD j Msg0).sq = (L.getD 0 Msg0).sq ∧ (0 < j → (L.getD (j - 1) Msg0).fr < (L.getD j Msg0).fr)
 refine ⟨by rw [e]; rfl, by rw [e]; exact prM_ok hv hs hx, by rw [e]; rfl, by rw [e, e0]; rfl, by rw [e, e0]; rfl, h2⟩
theorem CtG.mem {vw sq : Int} {c : Ct} (h : CtG vw sq c) {m : Msg} (hm : m ∈ c.ps) : ∃ x, (0 ≤ x ∧ x ≤ 3) ∧ m = prM vw sq c.bd x := by
 obtain ⟨i, hi, rfl⟩ := List.getElem_of_mem hm
 obtain ⟨x, hx, e⟩ := h.ps i hi
 exact ⟨x, hx, by rw [← e]; simp [hi]⟩
theorem msW_prM (vw sq : Int) (b : ByteArray) (x : Int) : (msW (prM vw sq b x)).size = 47 := by
 rw [Y8]
 show 7 + (dgB b).size + 0 + (mk _ _).size = 47
 rw [P6, P5]
theorem CtG.small {vw sq : Int} {c : Ct} (h : CtG vw sq c) : ∀ s ∈ (c.bd :: c.ps.map msW), s.size ≤ 200 := by
 intro s hs
 rcases List.mem_cons.1 hs with q | q
 ·rw [q]; exact h.bz
 ·obtain ⟨m, hm, rfl⟩ := List.mem_map.1 q
  obtain ⟨x, _, rfl⟩ := h.mem hm
  rw [msW_prM]; decide
theorem itW_le : ∀ {L : List ByteArray} {B : Nat}, (∀ s ∈ L, s.size ≤ B) → (itW L).size ≤ (B + 2) * L.length
 | [], B, _ => Nat.zero_le _
 | a :: L, B, h => by
  have h1 := itW_le (L := L) (B := B) fun x hx => h x (List.mem_cons_of_mem _ hx)
  have h2 := h a List.mem_cons_self
  show (Nm a.size 2 ++ a ++ itW L).size ≤ _
  rw [ByteArray.size_append, ByteArray.size_append, A6, List.length_cons, Nat.mul_succ]; omega
theorem CtG.wz {vw sq : Int} {c : Ct} (h : CtG vw sq c) : (ctW c).size ≤ 1000 := by
 have h1 := itW_le h.small
 have h2 : (c.bd :: c.ps.map msW).length = 4 := by rw [List.length_cons, List.length_map, h.ln]
 unfold ctW lsW
 rw [ByteArray.size_append, A6]
 rw [h2] at h1; omega
theorem CtG.rt {vw sq : Int} {c : Ct} (h : CtG vw sq c) (hv : 0 ≤ vw ∧ vw ≤ 20) (hs : 1 ≤ sq ∧ sq ≤ 8) : ctC (ctW c) = some c :=
 ctW_C (by have := h.bz; omega) (by rw [h.ln]; decide) fun m hm => by
  obtain ⟨x, hx, rfl⟩ := h.mem hm
  exact ⟨(prM_ok hv hs hx).1, rfl⟩
structure CS2 where
 i : Nat
 L : List Msg
 b : Nat
 m : Nat
 g : Heap
structure CSI (X : Option Blk) (vw sq : Int) (bd : ByteArray) (sk : Int) (cb id : Nat) (h : Heap) (n : Nat) (a : CS2) : Prop where
 il : a.i ≤ 4
 ll : (a.L.length : Int) = if sk < (a.i : Int) then (a.i : Int) - 1 else a.i
 ok : prI vw sq bd a.L a.i
 src : a.g id = X
 cel : a.g cb = some ⟨[[.str bd, .view a.b 0 a.L.length]], 2, 44⟩
 out : a.g a.b = some ⟨a.L.map Msg.V, 7, 37⟩
 res : a.g n = some ⟨[[.str ⟨#[]⟩, .nsl]], 2, 44⟩
 bm : cb ≠ a.b ∧ n < a.b ∧ a.b < a.m ∧ n < cb ∧ cb < a.m
 fr : ∀ j, j < n → j ≠ id → a.g j = h j
 ch : Ch h a.g
theorem o143 (fr nn : Bool) (B : List Int) (hB : bytes B) (hL : B.length ≤ 1048577) (k0 s0 : Int) (hk : 0 ≤ k0 ∧ k0 ≤ 700000) (hs : sdOK s0) {id : Nat} {h : Heap} {n : Nat} (hid : id < n) (hh : h id = some (srcB fr nn B k0 s0)) (vw sq : Int) (hv : 0 ≤ vw ∧ vw ≤ 20) (hsq : 1 ≤ sq ∧ sq ≤ 8) :
  OpenM En 143 [.ptr id 0 0, .int .i64 4, .int .i64 vw, .int .i64 sq] h n (fun v g m => ∃ (c : Ct) (b : Nat) (k s : Int), v = .agg [.str c.bd, .view b 0 c.ps.length] ∧ g b = some ⟨c.ps.map Msg.V, 7, 37⟩ ∧ (n ≤ b ∧ b < m) ∧ CtG vw sq c ∧ (k0 ≤ k ∧ k ≤ k0 + 13) ∧ sdOK s ∧ g id = some (srcB fr nn B k s) ∧ (∀ j, j < n → j ≠ id → g j = h j) ∧ Ch h g) := by
 refine OpenM.of_ev (st := [5]) Tryz.func143 rfl kb ?_
 refine eopO (o178 fr nn B hB hL k0 s0 (by omega) hs ?_ ?_) rfl j2 ?_
 ·exact Q37
 ·exact Q37
 rintro v1 wr1 m1 ⟨bd, k1, s1, rfl, hbd, hne0, hbz, hk1, hs1, hsrc1, hfr1, hc1⟩ hle1
 have hres1 := (hfr1 n (by omega) (by omega)).trans (by (repeat first | with_reducible assumption | exact lkS (by omega) rfl | apply lkN (by omega)))
 refine D3 (es := []) j4 kz kb rfl rfl ?_
 (apply est (u := .agg [.str _, _]) j3; exact Q1; exact Q8; exact j4; exact kb; rfl)
 refine K6 (X9 fr nn B hB hL k1 s1 4 (by omega) hs1 (by decide) ?_ ?_) rfl j2 ?_
 ·exact Q37
 ·exact Q37
 rintro ⟨sk, s2⟩ h2_2
 try dsimp only at h2_2
 refine U7 fun g0 hg0 => ?_
 refine A9 (fun (a : CS2) => [.ptr id 0 0, .int .i64 4, .int .i64 vw, .int .i64 sq, .unk, .unk, .unk, .unk, .ptr n 0 0, .ptr (m1 + 1) 0 0, .int .i64 sk, .int .i64 (a.i : Int)]) (fun (a : CS2) => a.g) (fun (a : CS2) => a.m) (fun (a : CS2) => CSI (some (srcB fr nn B (k1 + 1) s2)) vw sq bd sk (m1 + 1) id h n a) (fun (a : CS2) => 4 - a.i) ⟨0, [], m1, m1 + 1 + 1, g0⟩ ?_ ?_ ?_ ?_ ?_
 ·refine ⟨Nat.zero_le _, ?_, fun j hj => absurd hj (Nat.not_lt_zero j), ?_, ?_, ?_, ?_, by dsimp only; omega, ?_, ?_⟩
  ·dsimp only; rw [if_neg (by omega)]; rfl
  ·dsimp only; rw [hg0]; exact Q1
  ·dsimp only; rw [hg0]; exact Q1
  ·dsimp only; rw [hg0]; exact Q1
  ·dsimp only; rw [hg0]; exact Q1
  ·intro j hj hne; dsimp only; rw [hg0]; (repeat first | with_reducible rfl | refine lkN (by omega) ?_ | refine (hfr1 j (by omega) hne).trans ?_)
  ·dsimp only; rw [hg0]; repeat first | exact hch | exact Ch.refl _ | refine Ch.app ?_
 ·(repeat first | exact LE.nil _ | refine LE.unk _ _ ?_ | refine LE.eq _ _ _ rfl ?_)
 ·exact LessH.refl _
 ·exact Nat.le_refl _
 intro ⟨i, L, b, m, g⟩ hI ih
 obtain ⟨il, ll, hok, hsrc, hcel, hout, hres, hbm, hfr, hch⟩ := hI
 dsimp only at il ll hok hsrc hcel hout hres hbm hfr hch ⊢
 have hll3 : L.length ≤ 4 := by split at ll <;> omega
 have hq3 : quo 4 = 3 := by decide
 have hrl : (L.map Msg.V).length = L.length := List.length_map ..
 refine A7 (st := [5]) ?_
 refine A4 ?_ (by exact Q1) (by exact Q8)
 refine C8 (r59 4 (by decide)) rfl rfl rfl ?_
 refine br ?_ ?_ <;> intro h4_5
 ·refine br ?_ ?_ <;> intro h6_2
  ·refine A4 ?_ (by exact Q1) (by exact Q8)
   refine A4 ?_ (by exact Q1) (by exact Q8)
   refine C8 (r153 bd (by omega)) rfl rfl rfl ?_
   refine C8 (r145 (i : Int) ⟨2, vw, sq, 0, dgB bd, ⟨#[]⟩, ⟨#[]⟩⟩ (by dsimp only; rw [P6]; decide) (by show 0 ≤ 20000; decide)) rfl rfl rfl ?_
   refine D3 (es := [[.int _ _, .int _ _, .int _ _, .int _ _, .str _, .str _, .str _]]) j4 kz kb rfl rfl ?_
   (apply eap (s' := 80) (es := [[.int _ _, .int _ _, .int _ _, .int _ _, .str _, .str _, .str _]]) rfl rfl; exact Q1; exact j2; (first | rfl | (rw [List.length_map]; done) | simp); exact j2; exact kz; (first | rfl | (apply E0 rfl; exact Q1; (first | exact Nat.le_refl _ | omega); rfl)); exact Q44; exact Q33; exact Q33)
   (apply est (u := .view _ _ _) j3; exact Q1; exact Q8; exact j4; exact kb; rfl)
   refine clr 14 [3, 0, 3, 3, 0, 0, 0, 1, 0, 0, 0, 0, 1, 0] [(1, 10)] j2 (by decide +kernel) ?_ ?_
   ·first | (simp [ClearL, ids]; done) | (simp [ClearL, ids]; omega) | (simp [ClearL, ids, srcIds, Env.eval, put, upd, retV, A.toV, T.toV]; try omega)
   refine E1 fun GG hGG => ?_
   refine B7 ?_
   first
   | (
     refine C6 (ih ⟨i + 1, L, b, m, GG⟩ ⟨by dsimp only; omega, ?_, ?_, ?_, ?_, ?_, ?_, by dsimp only; omega, ?_, ?_⟩ (by dsimp only; omega)) (by (repeat first | exact LE.nil _ | refine LE.unk _ _ ?_ | refine LE.eq _ _ _ rfl ?_)) (LessH.refl _) (Nat.le_refl _)
     · dsimp only; split at ll <;> split <;> omega
     · dsimp only; intro j hj; have q := hok j hj; exact ⟨q.1, q.2.1, by have := q.2.2; omega⟩
     · dsimp only; rw [hGG]; exact hsrc
     · dsimp only; rw [hGG]; exact hcel
     · dsimp only; rw [hGG]; exact hout
     · dsimp only; rw [hGG]; exact hres
     · dsimp only; rw [hGG]; exact hfr
     · dsimp only; rw [hGG]; exact hch)
   | (
     refine C6 (ih ⟨i + 1, L ++ [prM vw sq bd (i : Int)], m + 1, m + 1 + 1, GG⟩ ⟨by dsimp only; omega, ?_, ?_, ?_, ?_, ?_, ?_, by dsimp only; omega, ?_, ?_⟩ (by dsimp only; omega)) (by (repeat first | exact LE.nil _ | refine LE.unk _ _ ?_ | refine LE.eq _ _ _ rfl ?_)) (LessH.refl _) (Nat.le_refl _)
     · dsimp only; rw [List.length_append]; show ((L.length + 1 : Nat) : Int) = _; split at ll <;> split <;> omega
     · exact prI_more hok (by omega)
     · dsimp only; rw [hGG]; exact Q1
     · dsimp only; rw [hGG, List.length_append]; (simp (disch := omega) only [↓app0, ↓appC, ↓updS, ↓updN]); (try rfl)
     · dsimp only; rw [hGG, List.map_append]; (simp (disch := omega) only [↓app0, ↓appC, ↓updS, ↓updN, List.drop_zero]); rfl
     · dsimp only; rw [hGG]; exact Q1
     · intro j hj hne; dsimp only; rw [hGG]; (simp (disch := omega) only [↓app0, ↓appC, ↓updS, ↓updN]); exact hfr j hj hne
     · dsimp only; rw [hGG]; repeat first | exact hch | exact Ch.refl _ | refine Ch.app ?_)
  ·refine br (fun h => absurd h ((by decide))) ?_
   intro h6_5
   refine E1 fun GG hGG => ?_
   refine B7 ?_
   first
   | (
     refine C6 (ih ⟨i + 1, L, b, m, GG⟩ ⟨by dsimp only; omega, ?_, ?_, ?_, ?_, ?_, ?_, by dsimp only; omega, ?_, ?_⟩ (by dsimp only; omega)) (by (repeat first | exact LE.nil _ | refine LE.unk _ _ ?_ | refine LE.eq _ _ _ rfl ?_)) (LessH.refl _) (Nat.le_refl _)
     · dsimp only; split at ll <;> split <;> omega
     · dsimp only; intro j hj; have q := hok j hj; exact ⟨q.1, q.2.1, by have := q.2.2; omega⟩
     · dsimp only; rw [hGG]; exact hsrc
     · dsimp only; rw [hGG]; exact hcel
     · dsimp only; rw [hGG]; exact hout
     · dsimp only; rw [hGG]; exact hres
     · dsimp only; rw [hGG]; exact hfr
     · dsimp only; rw [hGG]; exact hch)
   | (
     refine C6 (ih ⟨i + 1, L ++ [prM vw sq bd (i : Int)], m + 1, m + 1 + 1, GG⟩ ⟨by dsimp only; omega, ?_, ?_, ?_, ?_, ?_, ?_, by dsimp only; omega, ?_, ?_⟩ (by dsimp only; omega)) (by (repeat first | exact LE.nil _ | refine LE.unk _ _ ?_ | refine LE.eq _ _ _ rfl ?_)) (LessH.refl _) (Nat.le_refl _)
     · dsimp only; rw [List.length_append]; show ((L.length + 1 : Nat) : Int) = _; split at ll <;> split <;> omega
     · exact prI_more hok (by omega)
     · dsimp only; rw [hGG]; exact Q1
     · dsimp only; rw [hGG, List.length_append]; (simp (disch := omega) only [↓app0, ↓appC, ↓updS, ↓updN]); (try rfl)
     · dsimp only; rw [hGG, List.map_append]; (simp (disch := omega) only [↓app0, ↓appC, ↓updS, ↓updN, List.drop_zero]); rfl
     · dsimp only; rw [hGG]; exact Q1
     · intro j hj hne; dsimp only; rw [hGG]; (simp (disch := omega) only [↓app0, ↓appC, ↓updS, ↓updN]); exact hfr j hj hne
     · dsimp only; rw [hGG]; repeat first | exact hch | exact Ch.refl _ | refine Ch.app ?_)
 ·(apply D2 (vs := [.str _, _]) j2; exact Q1; exact Q8; rfl; exact kb; rfl)
  (apply est (u := .agg [.str _, _]) j3; exact Q1; exact Q8; exact j4; exact kb; rfl)
  have hl3 : L.length = 3 := by split at ll <;> omega
  refine fiM (xs := [.agg [.str bd, .view b 0 L.length]]) (A0 (A2 rfl (by exact Q1) j2 kb rfl) A1) (by repeat first | exact hch | refine Ch.app ?_) ⟨⟨bd, L⟩, b, k1 + 1, s2, rfl, ?_, by omega, prI_ct hok hl3 hbd hne0 hbz hv hsq, by omega, h2_2.2, ?_, fun j hj hne => ?_, by repeat first | exact hch | refine Ch.app ?_⟩
  ·show _ = some (Blk.mk (L.map Msg.V) 7 37); exact Q1
  ·exact Q1
  ·(simp (disch := omega) only [↓app0, ↓appC, ↓updS, ↓updN]); exact hfr j hj hne
end Go.Proofs.YteifdelnahccjaaGreatDoor
