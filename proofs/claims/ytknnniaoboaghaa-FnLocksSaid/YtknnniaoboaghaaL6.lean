import Derived.ChangeArms
import Derived.DataReads
import Derived.Test.YtknnniaoboaghaaL5
namespace Go.V
open Go
set_option linter.unusedVariables false
set_option linter.unusedSimpArgs false
inductive Sh where
  | bool
  | int (k : IntKind)
  | str
  | sl (l : List Sh)
mutual
inductive HasSh : T → Sh → Prop
  | bool (b : Bool) : HasSh (.bool b) .bool
  | int (k : IntKind) (n : Int) (h : (Lit.int k n).wf = true) : HasSh (.int k n) (.int k)
  | str (s : ByteArray) (h : s.size ≤ maxLen) : HasSh (.str s) .str
  | sl (es : List (List T)) (l : List Sh) (h : es.length ≤ maxLen) (hs : ∀ e ∈ es, Shs e l) : HasSh (.sl false es) (.sl l)
inductive Shs : List T → List Sh → Prop
  | nil : Shs [] []
  | cons (x : T) (s : Sh) (xs : List T) (l : List Sh) (h : HasSh x s) (hs : Shs xs l) : Shs (x :: xs) (s :: l)
end
theorem Shs.length {xs : List T} {l : List Sh} (h : Shs xs l) : xs.length = l.length := by
  induction xs generalizing l with
  | nil => cases h; rfl
  | cons x xs ih => cases h with | cons _ _ _ _ _ hs => simp [ih hs]
theorem Shs.append {xs ys : List T} {l m : List Sh} (h : Shs xs l) (k : Shs ys m) : Shs (xs ++ ys) (l ++ m) := by
  induction xs generalizing l with
  | nil => cases h; exact k
  | cons x xs ih => cases h with | cons _ s _ l h hs => exact .cons x s _ _ h (ih hs)
def shFs (P : Program) (rec : TypeId → Option (List Sh)) : Nat → List Field → Option (List Sh)
  | _, [] => some []
  | off, f :: fs => match rec f.type with
    | none => none
    | some l => if f.offset = off ∧ P.cellsOf f.type = l.length then (shFs P rec (off + l.length) fs).map (l ++ ·) else none
def shOf (P : Program) : Nat → TypeId → Option (List Sh)
  | 0, _ => none
  | d + 1, t => match P.underlying t with
    | some .bool => some [.bool]
    | some (.int k) => some [.int k]
    | some .string => some [.str]
    | some (.slice e) => match shOf P d e with
      | some l => if P.cellsOf e = l.length ∧ l ≠ [] then some [.sl l] else none
      | none => none
    | some (.struct fs) => match shFs P (shOf P d) 0 fs.toList with
      | some l => if P.cellsOf t = l.length then some l else none
      | none => none
    | _ => none
def Opened (w : World) (cs : List Value) (l : List Sh) : Prop :=
  ∃ xs : List T, xs.length = cs.length ∧ Shs xs l ∧ ∀ (i : Nat) (x : T) (v : Value), xs[i]? = some x → cs[i]? = some v → TR (fun b => b < w.heap.size) w x v
theorem Opened.one {w : World} {v : Value} {x : T} {s : Sh} (h : HasSh x s) (t : TR (fun b => b < w.heap.size) w x v) : Opened w [v] [s] :=
  ⟨[x], rfl, .cons _ _ _ _ h .nil, fun i y u h1 h2 => by
    cases i with
    | zero => simp only [List.getElem?_cons_zero, Option.some.injEq] at h1 h2; subst h1; subst h2; exact t
    | succ i => simp at h1⟩
section
variable {H : Type} {enc : TypeId × Value → H} {P : Program} {w : World} {base : Nat} {spare : Nat → Bool} {held : Bool}
end
end Go.V
namespace Go.V
open Go
set_option linter.unusedVariables false
set_option linter.unusedSimpArgs false
def famL (w : Nat → Nat) (F : Nat → Option Blk) (n : Nat) : List (Nat × Option Blk) := (List.range n).map fun i => (w i, F i)
theorem I3 : ∀ (l m : List (Nat × Option Blk)) (h : Heap), app (l ++ m) h = app m (app l h)
  | [], m, h => rfl
  | (i, b) :: l, m, h => I3 l m (upd h i b)
theorem famL_succ {w : Nat → Nat} {F : Nat → Option Blk} {n : Nat} : famL w F (n + 1) = famL w F n ++ [(w n, F n)] := by
  unfold famL; rw [List.range_succ, List.map_append]; rfl
theorem famL_ids {w : Nat → Nat} {F : Nat → Option Blk} {n : Nat} : (famL w F n).map (·.1) = (List.range n).map w := by
  unfold famL; rw [List.map_map]; rfl
theorem U3 {w : Nat → Nat} {F : Nat → Option Blk} {n j : Nat} : j ∈ (famL w F n).map (·.1) ↔ ∃ i, i < n ∧ w i = j := by
  rw [famL_ids, List.mem_map]
  exact ⟨fun ⟨i, h1, h2⟩ => ⟨i, List.mem_range.1 h1, h2⟩, fun ⟨i, h1, h2⟩ => ⟨i, List.mem_range.2 h1, h2⟩⟩
theorem famO {w : Nat → Nat} {F : Nat → Option Blk} {n : Nat} {h : Heap} {id : Nat} (ho : ∀ i, i < n → w i ≠ id) : app (famL w F n) h id = h id :=
  O9 _ _ _ fun hm => by obtain ⟨i, h1, h2⟩ := U3.1 hm; exact ho i h1 h2
theorem famI {w : Nat → Nat} {F : Nat → Option Blk} {h : Heap} : ∀ {n i : Nat}, (∀ i j, i < n → j < n → w i = w j → i = j) → i < n → app (famL w F n) h (w i) = F i
  | n + 1, i, inj, hi => by
    rw [famL_succ, I3, appC, app0]
    by_cases e : i = n
    · subst e; exact updS rfl
    · rw [updN (fun e2 => e (inj i n hi (Nat.lt_succ_self n) e2))]
      exact famI (fun a b ha hb => inj a b (by omega) (by omega)) (by omega)
theorem AY {w : Nat → Nat} {F : Nat → Option Blk} {n m : Nat} {wr : List (Nat × Option Blk)} {h g : Heap} (hz : ∀ i, m ≤ i → h i = none)
    (h0 : ∀ i, i < n → g (w i) = app (wr ++ famL w F n) h (w i)) (h1 : ∀ j ∈ wr.map (·.1), g j = app (wr ++ famL w F n) h j)
    (h2 : ∀ j, j < m → (∀ i, i < n → w i ≠ j) → j ∉ wr.map (·.1) → g j = h j) : LessH (app (wr ++ famL w F n) h) g := by
  refine lessApp (n := m) hz (fun j hj => ?_) (fun j hj hn => ?_)
  · rw [List.map_append, List.mem_append] at hj
    rcases hj with hj | hj
    · exact h1 j hj
    · obtain ⟨i, hi, rfl⟩ := U3.1 hj; exact h0 i hi
  · rw [List.map_append, List.mem_append, not_or] at hn
    exact h2 j hj (fun i hi e => hn.2 (U3.2 ⟨i, hi, e⟩)) hn.1
theorem leFam {w : Nat → Nat} {F : Nat → Option Blk} {k n : Nat} {wr : List (Nat × Option Blk)} {h h' : Heap}
    (h0 : ∀ i, i < k → h' (w i) = app (wr ++ famL w F k) h (w i)) (h1 : ∀ j ∈ wr.map (·.1), h' j = app (wr ++ famL w F k) h j)
    (h2 : ∀ j, j < n → (∀ i, i < k → w i ≠ j) → j ∉ wr.map (·.1) → h' j = h j) : (∀ i, n ≤ i → h i = none) → ∀ id b, app (wr ++ famL w F k) h id = some b → h' id = some b := by
  refine K9 (fun j hj => ?_) (fun j hj hn => ?_)
  · rw [List.map_append, List.mem_append] at hj
    rcases hj with hj | hj
    · exact h1 j hj
    · obtain ⟨i, hi, rfl⟩ := U3.1 hj; exact h0 i hi
  · rw [List.map_append, List.mem_append, not_or] at hn
    exact h2 j hj (fun i hi e => hn.2 (U3.2 ⟨i, hi, e⟩)) hn.1
end Go.V
namespace Go.Proofs.Ytknnniaoboaghaa
open Go.V
set_option linter.unusedVariables false
set_option linter.unusedSimpArgs false
set_option maxRecDepth 20000
set_option maxHeartbeats 4000000
theorem s82 (a : An) : Pure En 82 [.agg a.T] [.one (.bool (decide a.OK))] := by
 refine Pure.of_wp Try.func82 rfl kb ?_
 refine A2 (A0 (K7 (u := .agg [.int _ _, .int _ _, .int _ _, .int _ _]) j3 rfl j3 (C3 j5 (A3 (A1 (A2 (A0 (C2 (off := 0) (s := 1) (r := false) j3 kz j3 (C6 (v := .int _ _) j2 rfl rfl j5 ?_)))))))))
 refine F3 (BD _ _ _) rfl j5 ?_ ?_ <;> intro h1_2
 ·refine C7 j5 (C2 (off := 1) (s := 1) (r := false) j3 kz j3 (C6 (v := .int _ _) j2 rfl rfl j5 ?_))
  refine F3 (BD _ _ _) rfl j5 ?_ ?_ <;> intro h1_6
  ·refine B7 (e := true) j6 (C7 j5 (C2 (off := 2) (s := 1) (r := false) j3 kz j3 (C6 (v := .int _ _) j2 rfl rfl j5 ?_)))
   refine F3 (BD _ _ _) rfl j5 ?_ ?_ <;> intro h1_11
   ·refine B7 (e := true) j6 (C7 j5 (C2 (off := 3) (s := 1) (r := false) j3 kz j3 (C6 (v := .int _ _) j2 rfl rfl j5 ?_)))
    refine F3 (BD _ _ _) rfl j5 ?_ ?_ <;> intro h1_16
    ·refine B7 (e := true) j6 (C3 j5 (A3 (A1 (B1 ?_))))
     first | (refine D3 rfl ?_; unfold An.OK; omega) | (refine C4 rfl ?_; unfold An.OK; omega)
    ·refine B7 (e := false) j6 (C3 j5 (A3 (A1 (B1 ?_))))
     first | (refine D3 rfl ?_; unfold An.OK; omega) | (refine C4 rfl ?_; unfold An.OK; omega)
   ·refine B7 (e := false) j6 (C7 j5 (A4 j3 (A4 j3 (A4 j3 (B7 (e := false) j6 (C3 j5 (A3 (A1 (B1 ?_)))))))))
    first | (refine D3 rfl ?_; unfold An.OK; omega) | (refine C4 rfl ?_; unfold An.OK; omega)
  ·refine B7 (e := false) j6 (C7 j5 (A4 j3 (A4 j3 (A4 j3 (B7 (e := false) j6 (C7 j5 (A4 j3 (A4 j3 (A4 j3 (B7 (e := false) j6 (C3 j5 (A3 ?_))))))))))))
   refine A1 (B1 ?_)
   first | (refine D3 rfl ?_; unfold An.OK; omega) | (refine C4 rfl ?_; unfold An.OK; omega)
 ·refine C7 j5 (A4 j3 (A4 j3 (A4 j3 (B7 (e := false) j6 (C7 j5 (A4 j3 (A4 j3 (A4 j3 (B7 (e := false) j6 (C7 j5 (A4 j3 (A4 j3 ?_))))))))))))
  refine A4 j3 (B7 (e := false) j6 (C3 j5 (A3 (A1 (B1 ?_)))))
  first | (refine D3 rfl ?_; unfold An.OK; omega) | (refine C4 rfl ?_; unfold An.OK; omega)
theorem s42 (t : Tb) (b n1 n2 : Bool) : Pure En 42 [.agg (t.T b n1 n2)] [.one (.bool (decide t.OK))] := by
 have hl : (t.lk.map (Lk.T b)).length = t.lk.length := List.length_map ..
 have hl2 : (t.sn.map Sn.T).length = t.sn.length := List.length_map ..
 refine Pure.of_wp Try.func42 rfl kb ?_
 refine A2 (A0 (K7 (u := .agg [.int _ _, .int _ _, _, _]) j3 rfl j3 (C3 j5 (A3 (A1 (A2 (A2 (A0 (C2 (off := 0) (s := 1) (r := false) j3 kz j3 ?_)))))))))
 (apply C6 (v := .int _ _) j2; exact Q0; rfl; exact j5)
 refine F3 (BD _ _ _) rfl j5 ?_ ?_ <;> intro h1_2
 ·refine E1 (c := true) j5 (C7 j5 (C2 (off := 1) (s := 1) (r := false) j3 kz j3 ?_))
  (apply C6 (v := .int _ _) j2; exact Q0; rfl; exact j5)
  refine F3 (BD _ _ _) rfl j5 ?_ ?_ <;> intro h1_7
  ·refine E1 (c := true) j5 (B7 (e := false) j6 (C7 j5 (C2 (off := 2) (s := 1) (r := false) j3 kz j3 ?_)))
   (apply C6 (v := .sl _ _ _) j2; exact Q0; rfl; exact j5)
   refine G7 rfl rfl rfl j3 ?_
   refine V9 j6 ?_ ?_ <;> intro h1_14
   ·refine B7 (e := true) j6 (C7 j5 (A4 j3 (A4 j3 (A4 j3 (A4 j3 (B7 (e := true) j6 (A3 (A1 (wT rfl (A2 (A0 (C3 j5 ?_))))))))))))
    refine A3 (A1 (B1 (B0 ?_)))
    refine C4 rfl fun hw => ?_; obtain ⟨w1, w2, w3, w4, w5, w6⟩ := hw; first | contradiction | omega
   ·refine B7 (e := false) j6 (C7 j5 (C2 (off := 3) (s := 1) (r := false) j3 kz j3 ?_))
    (apply C6 (v := .sl _ _ _) j2; exact Q0; rfl; exact j5)
    refine G7 rfl rfl rfl j3 ?_
    refine V9 j6 ?_ ?_ <;> intro h1_20
    ·refine B7 (e := true) j6 (A3 (A1 (wT rfl (A2 (A0 (C3 j5 (A3 (A1 (B1 (B0 ?_))))))))))
     refine C4 rfl fun hw => ?_; obtain ⟨w1, w2, w3, w4, w5, w6⟩ := hw; first | contradiction | omega
    ·refine B7 (e := false) j6 (A3 (A1 (wF rfl (B2 (A1 (A2 (A2 (A0 (D1 j5 (A3 (A1 (B4 ?_))))))))))))
     refine F0 ?_
     refine E4 (fun (a : Nat × Nat) => [.unk, .ptr 0 0 0, .unk, .int .i64 a.1]) (fun (a : Nat × Nat) => hp [(0, ⟨[[.int .i64 t.tm, .int .i64 t.nx, .sl false n1 (t.lk.map (Lk.T b)), .sl false n2 (t.sn.map Sn.T)]], 4, 35⟩)]) (fun (a : Nat × Nat) => a.2) (fun (a : Nat × Nat) => a.1 ≤ t.lk.length ∧ (∀ j, j < a.1 → lkAt t j) ∧ 1 ≤ a.2) (fun (a : Nat × Nat) => t.lk.length - a.1) (0, 1) ?_ ?_ ?_ ?_ ?_
     ·exact ⟨Nat.zero_le _, N1, Nat.le_refl _⟩
     ·(repeat first | exact LE.nil _ | refine LE.unk _ _ ?_ | refine LE.eq _ _ _ rfl ?_)
     ·(repeat first | exact E9 | (refine F1 ?_ ?_; exact U1))
     ·exact Nat.le_refl _
     intro ⟨i0, m0⟩ hI ih
     dsimp only at hI ⊢
     have hK0 := hI
     have ih0 := ih
     have hlw : ((t.lk.getD i0 Lk0).ws.map wtT).length = (t.lk.getD i0 Lk0).ws.length := List.length_map ..
     refine E8 (A2 (A2 (A0 (B5 j5 (C2 (off := 2) (s := 1) (r := false) j3 kz j3 ?_)))))
     (apply C6 (v := .sl _ _ _) j2; exact Q0; rfl; exact j5)
     refine G7 rfl rfl rfl j3 ?_
     refine H9 j6 ?_ ?_ <;> intro h4_4
     ·refine A3 (A1 (wT rfl (B2 (A1 (A2 (B4 (A2 (A0 (C2 (off := 2) (s := 1) (r := false) j3 kz j3 ?_)))))))))
      (apply C6 (v := .sl _ _ _) j2; exact Q0; rfl; exact j5)
      refine B5 j5 ?_
      (apply K8 j4; exact Q4; exact Q20; exact j4)
      refine N4 (vs := [.str _, .int _ _, .int _ _, .int _ _, _]) j3 kb j4 (H3 j6 ?_)
      (apply D6 (u := .agg [.str _, .int _ _, .int _ _, .int _ _, _]) j3; exact Q0; rfl; rfl; rfl; rfl; rfl; exact kb; rfl; exact j2)
      refine A3 (A1 (A2 (A2 (B9 [0, 1, 3, 7, 15, 31, 63, 127, 255, 511, 255, 1279, 4095, 8191, 16383, 255, 33023, 131071, 262143, 524287, 1048575, 2097151, 4194303, 2097151, 10485759, 27262975, 67108863, 134217727, 268435455, 536870911, 1073741823, 2147483647, 4294967295, 8589934591, 17179869183, 34359738367, 68719476735, 137438953471, 274877906943, 549755813887, 1099511627775, 2199023255551, 4398046511103, 8796093022207, 17592186044415, 35184372088831, 70368744177663] rfl (by decide +kernel) ?_))))
      refine C9 (off := 0) (s := 1) (r := false) j3 kz j3 ?_
      (apply D5 (v := .str _) j2; exact Q0; rfl; exact j5)
      refine X7 (p85 _ _) rfl j5 ?_ ?_ <;> intro h7_2
      ·refine K6 (c := true) j5 (F9 j5 (I2 j5 ?_))
       refine dgt j6 ?_ ?_ <;> intro h7_6
       ·refine F9 j5 (C9 (off := 2) (s := 1) (r := false) j3 kz j3 ?_)
        (apply D5 (v := .sl _ _ _) j2; exact Q0; rfl; exact j5)
        refine I2 j5 (AF j3 ?_ ?_ j3 ?_)
        ·exact Q4
        ·exact Q4
        (apply O4 j4; exact Q4; exact Q20; exact j4)
        refine dfai (off := 0) (s := 1) (r := false) j3 kz j4 (V7 (v := .str _) j8 (C9 (off := 0) (s := 1) (r := false) j3 kz j3 ?_))
        (apply D5 (v := .str _) j2; exact Q0; rfl; exact j5)
        refine dsge j6 ?_ ?_ <;> intro h7_17
        ·refine F4 (e := true) j6 (F4 (e := true) j6 (F9 j5 (A5 j3 (A5 j3 (A5 j3 (A5 j3 (A5 j3 (A5 j3 (A5 j3 (F4 (e := true) j6 (F9 j5 (A5 j3 ?_))))))))))))
         refine A5 j3 (A5 j3 (A5 j3 (F4 (e := true) j6 (F9 j5 (A5 j3 (A5 j3 (A5 j3 (A5 j3 (F4 (e := true) j6 (F9 j5 (A5 j3 (A5 j3 ?_))))))))))))
         refine A5 j3 (A5 j3 (F4 (e := true) j6 (B3 47 [0, 0, 0, 0, 0, 0, 0, 0, 0, 0, 0, 0, 0, 0, 0, 0, 0, 0, 0, 0, 0, 0, 0, 0, 0, 0, 0, 0, 0, 0, 1, 0, 0, 0, 0, 0, 0, 1, 0, 0, 0, 0, 0, 0, 0, 1, 0] [] j2 (by decide +kernel) trivial ?_)))
         refine A1 (wT rfl (A2 (A0 (C3 j5 (A3 (A1 (B1 (B0 (A8 (B0 (D4 (A8 ?_))))))))))))
         refine B0 ?_
         refine C4 rfl fun hw => ?_
         obtain ⟨w1, w2, w3, w4, w5, w6⟩ := hw
         obtain ⟨⟨v1, v2, v3, v4, v5, v6, v7⟩, v8⟩ := w5 i0 (by omega)
         first
         | omega
         | exact h7_2 ⟨by have := v1.1; omega, v1.2⟩
         | (have v9 := v8 (by omega); unfold ltS at v9; rw [E2, v9] at h7_17; cases h7_17)
        ·refine F4 (e := false) j6 (F4 (e := false) j6 (F9 j5 (C9 (off := 1) (s := 1) (r := false) j3 kz j3 ?_)))
         (apply D5 (v := .int _ _) j2; exact Q0; rfl; exact j5)
         refine C9 (off := 1) (s := 1) (r := false) j3 kz j3 ?_
         (apply D5 (v := .int _ _) j2; exact Q0; rfl; exact j5)
         refine AF j3 ?_ ?_ j3 ?_
         ·exact Q4
         ·exact Q4
         refine X7 (BD _ _ _) rfl j5 ?_ ?_ <;> intro h7_26
         ·refine K6 (c := true) j5 (F4 (e := false) j6 (F9 j5 (C9 (off := 2) (s := 1) (r := false) j3 kz j3 ?_)))
          (apply D5 (v := .int _ _) j2; exact Q0; rfl; exact j5)
          refine X7 (BD _ _ _) rfl j5 ?_ ?_ <;> intro h7_32
          ·refine K6 (c := true) j5 (F4 (e := false) j6 (F9 j5 (C9 (off := 3) (s := 1) (r := false) j3 kz j3 ?_)))
           (apply D5 (v := .int _ _) j2; exact Q0; rfl; exact j5)
           refine X7 (BD _ _ _) rfl j5 ?_ ?_ <;> intro h7_38
           ·refine K6 (c := true) j5 (F4 (e := false) j6 (F9 j5 (C9 (off := 4) (s := 1) (r := false) j3 kz j3 ?_)))
            (apply D5 (v := .sl _ _ _) j2; exact Q0; rfl; exact j5)
            refine dll rfl rfl rfl j3 ?_
            refine dgt j6 ?_ ?_ <;> intro h7_45
            ·refine F4 (e := true) j6 (B3 47 [0, 0, 0, 1, 0, 0, 0, 0, 0, 1, 0, 0, 0, 0, 0, 1, 0, 0, 0, 0, 0, 0, 1, 0, 1, 0, 0, 0, 0, 0, 1, 0, 0, 0, 0, 0, 0, 1, 0, 0, 0, 0, 0, 0, 0, 1, 0] [] j2 (by decide +kernel) trivial ?_)
             refine A1 (wT rfl (A2 (A0 (C3 j5 (A3 (A1 (B1 (B0 (A8 (B0 (D4 (A8 ?_))))))))))))
             refine B0 ?_
             refine C4 rfl fun hw => ?_
             obtain ⟨w1, w2, w3, w4, w5, w6⟩ := hw
             obtain ⟨⟨v1, v2, v3, v4, v5, v6, v7⟩, v8⟩ := w5 i0 (by omega)
             first
             | omega
             | exact h7_2 ⟨by have := v1.1; omega, v1.2⟩
             | (have v9 := v8 (by omega); unfold ltS at v9; rw [E2, v9] at h7_17; cases h7_17)
            ·refine F4 (e := false) j6 (B3 47 [0, 0, 0, 1, 0, 0, 0, 0, 0, 1, 0, 0, 0, 0, 0, 1, 0, 0, 0, 0, 0, 0, 1, 0, 1, 0, 0, 0, 0, 0, 1, 0, 0, 0, 0, 0, 0, 1, 0, 0, 0, 0, 0, 0, 0, 1, 0] [] j2 (by decide +kernel) trivial ?_)
             refine A1 (wF rfl (B2 (A1 (A2 (A2 (A0 (C2 (off := 2) (s := 1) (r := false) j3 kz j3 ?_)))))))
             (apply C6 (v := .int _ _) j2; exact Q0; rfl; exact j5)
             refine H9 j6 ?_ ?_ <;> intro h9_2
             ·refine C7 j5 (C2 (off := 3) (s := 1) (r := false) j3 kz j3 ?_)
              (apply C6 (v := .int _ _) j2; exact Q0; rfl; exact j5)
              refine rne j6 ?_ ?_ <;> intro h9_6
              ·refine C7 j5 (A4 j3 (A4 j3 (A4 j3 (A4 j3 (B7 (e := true) j6 (B7 (e := true) j6 (A3 (A1 (wT rfl (A2 (A0 (C3 j5 ?_))))))))))))
               refine A3 (A1 (B1 (B0 (A8 (B0 (D4 (A8 (B0 ?_))))))))
               refine C4 rfl fun hw => ?_
               obtain ⟨w1, w2, w3, w4, w5, w6⟩ := hw
               obtain ⟨⟨v1, v2, v3, v4, v5, v6, v7⟩, v8⟩ := w5 i0 (by omega)
               have v9 := v6 (by omega)
               omega
              ·refine C7 j5 (C2 (off := 4) (s := 1) (r := false) j3 kz j3 ?_)
               (apply C6 (v := .sl _ _ _) j2; exact Q0; rfl; exact j5)
               refine G7 rfl rfl rfl j3 ?_
               refine rne j6 ?_ ?_ <;> intro h9_11
               ·refine B7 (e := true) j6 (B7 (e := true) j6 (A3 (A1 (wT rfl (A2 (A0 (C3 j5 (A3 (A1 (B1 (B0 (A8 ?_))))))))))))
                refine B0 (D4 (A8 (B0 ?_)))
                refine C4 rfl fun hw => ?_
                obtain ⟨w1, w2, w3, w4, w5, w6⟩ := hw
                obtain ⟨⟨v1, v2, v3, v4, v5, v6, v7⟩, v8⟩ := w5 i0 (by omega)
                have v9 := v6 (by omega)
                omega
               ·refine B7 (e := false) j6 (B7 (e := false) j6 (A3 (A1 (wF rfl (B2 (A1 (A2 (A0 (D1 j5 (A3 (A1 (B4 ?_))))))))))))
                refine F0 ?_
                refine E4 (fun (a : Nat × Nat) => [.unk, .ptr 0 0 0, .unk, .int .i64 i0, .ptr m0 0 0, .int .i64 a.1]) (fun (a : Nat × Nat) => hp [(0, ⟨[[.int .i64 t.tm, .int .i64 t.nx, .sl false n1 (t.lk.map (Lk.T b)), .sl false n2 (t.sn.map Sn.T)]], 4, 35⟩), (m0, ⟨[[.str (t.lk.getD i0 Lk0).nm, .int .i64 (t.lk.getD i0 Lk0).tk, .int .i64 (t.lk.getD i0 Lk0).hd, .int .i64 (t.lk.getD i0 Lk0).ex, .sl false b ((t.lk.getD i0 Lk0).ws.map wtT)]], 5, 29⟩)]) (fun (a : Nat × Nat) => a.2) (fun (a : Nat × Nat) => a.1 ≤ (t.lk.getD i0 Lk0).ws.length ∧ (∀ j, j < a.1 → wOK (t.lk.getD i0 Lk0) j) ∧ m0 < a.2) (fun (a : Nat × Nat) => (t.lk.getD i0 Lk0).ws.length - a.1) (0, m0 + 1) ?_ ?_ ?_ ?_ ?_
                ·exact ⟨Nat.zero_le _, N1, Nat.lt_succ_self _⟩
                ·(repeat first | exact LE.nil _ | refine LE.unk _ _ ?_ | refine LE.eq _ _ _ rfl ?_)
                ·(repeat first | exact E9 | (refine F1 ?_ ?_; exact U1))
                ·exact Nat.le_refl _
                intro ⟨k, m1⟩ hI ih
                dsimp only at hI ⊢
                have hK1 := hI
                have ih1 := ih
                refine E8 (A2 (A2 (A0 (B5 j5 (C2 (off := 4) (s := 1) (r := false) j3 kz j3 ?_)))))
                (apply C6 (v := .sl _ _ _) j2; exact Q0; rfl; exact j5)
                refine G7 rfl rfl rfl j3 ?_
                refine H9 j6 ?_ ?_ <;> intro h12_4
                ·refine A3 (A1 (wT rfl (B2 (A1 (A2 (B4 (A2 ?_)))))))
                 exact absurd h12_4 (by omega)
                ·refine A3 (A1 (wF rfl (E5 (E6 (D2 (C5 (C0 (A1 (A0 (B5 j5 (D0 j3 ?_ ?_ j3 ?_)))))))))))
                 ·exact Q4
                 ·exact Q4
                 refine D1 j5 (A3 (E3 ?_))
                 refine I4 (ih0 (i0 + 1, m1) ⟨by dsimp only; omega, L5 hK0.2.1 ⟨⟨⟨by have := h7_2.1; omega, h7_2.2⟩, by omega, by omega, by omega, by omega, fun he => by omega, fun j hj => hI.2.1 j (by omega)⟩, fun h0 => ?_⟩, by dsimp only; omega⟩ (by dsimp only; omega)) (by (repeat first | exact LE.nil _ | refine LE.unk _ _ ?_ | refine LE.eq _ _ _ rfl ?_)) (by (repeat first | exact E9 | (refine F1 ?_ ?_; exact U1))) (Nat.le_refl _)
                 first | omega | (rw [E2] at h7_17; unfold ltS; simpa using h7_17)
             ·refine C7 j5 (A4 j3 (A4 j3 (A4 j3 (A4 j3 (A4 j3 (A4 j3 (A4 j3 (A4 j3 (A4 j3 (B7 (e := false) j6 (A3 (A1 ?_))))))))))))
              refine wF rfl (B2 (A1 (A2 (A0 (D1 j5 (A3 (A1 (B4 (F0 ?_)))))))))
              refine E4 (fun (a : Nat × Nat) => [.unk, .ptr 0 0 0, .unk, .int .i64 i0, .ptr m0 0 0, .int .i64 a.1]) (fun (a : Nat × Nat) => hp [(0, ⟨[[.int .i64 t.tm, .int .i64 t.nx, .sl false n1 (t.lk.map (Lk.T b)), .sl false n2 (t.sn.map Sn.T)]], 4, 35⟩), (m0, ⟨[[.str (t.lk.getD i0 Lk0).nm, .int .i64 (t.lk.getD i0 Lk0).tk, .int .i64 (t.lk.getD i0 Lk0).hd, .int .i64 (t.lk.getD i0 Lk0).ex, .sl false b ((t.lk.getD i0 Lk0).ws.map wtT)]], 5, 29⟩)]) (fun (a : Nat × Nat) => a.2) (fun (a : Nat × Nat) => a.1 ≤ (t.lk.getD i0 Lk0).ws.length ∧ (∀ j, j < a.1 → wOK (t.lk.getD i0 Lk0) j) ∧ m0 < a.2) (fun (a : Nat × Nat) => (t.lk.getD i0 Lk0).ws.length - a.1) (0, m0 + 1) ?_ ?_ ?_ ?_ ?_
              ·exact ⟨Nat.zero_le _, N1, Nat.lt_succ_self _⟩
              ·(repeat first | exact LE.nil _ | refine LE.unk _ _ ?_ | refine LE.eq _ _ _ rfl ?_)
              ·(repeat first | exact E9 | (refine F1 ?_ ?_; exact U1))
              ·exact Nat.le_refl _
              intro ⟨k, m1⟩ hI ih
              dsimp only at hI ⊢
              have hK1 := hI
              have ih1 := ih
              refine E8 (A2 (A2 (A0 (B5 j5 (C2 (off := 4) (s := 1) (r := false) j3 kz j3 ?_)))))
              (apply C6 (v := .sl _ _ _) j2; exact Q0; rfl; exact j5)
              refine G7 rfl rfl rfl j3 ?_
              refine H9 j6 ?_ ?_ <;> intro h12_4
              ·refine A3 (A1 (wT rfl (B2 (A1 (A2 (B4 (A2 (A0 (C2 (off := 4) (s := 1) (r := false) j3 kz j3 ?_)))))))))
               (apply C6 (v := .sl _ _ _) j2; exact Q0; rfl; exact j5)
               refine B5 j5 ?_
               (apply K8 j4; exact Q4; exact Q20; exact j4)
               refine N4 (vs := [.int _ _, .int _ _]) j3 kb j4 (H3 j6 ?_)
               (apply D6 (u := .agg [.int _ _, .int _ _]) j3; exact Q0; rfl; rfl; rfl; rfl; rfl; exact kb; rfl; exact j2)
               refine A3 (A1 (A2 (A2 (A0 (C2 (off := 0) (s := 1) (r := false) j3 kz j3 ?_)))))
               (apply C6 (v := .int _ _) j2; exact Q0; rfl; exact j5)
               refine F3 (BD _ _ _) rfl j5 ?_ ?_ <;> intro h15_2
               ·refine E1 (c := true) j5 (C7 j5 (C2 (off := 1) (s := 1) (r := false) j3 kz j3 ?_))
                (apply C6 (v := .int _ _) j2; exact Q0; rfl; exact j5)
                refine F3 (BD _ _ _) rfl j5 ?_ ?_ <;> intro h15_7
                ·refine E1 (c := true) j5 (B7 (e := false) j6 (C7 j5 (C2 (off := 0) (s := 1) (r := false) j3 kz j3 ?_)))
                 (apply C6 (v := .int _ _) j2; exact Q0; rfl; exact j5)
                 refine C2 (off := 2) (s := 1) (r := false) j3 kz j3 ?_
                 (apply C6 (v := .int _ _) j2; exact Q0; rfl; exact j5)
                 refine H5 j6 ?_ ?_ <;> intro h15_15
                 ·refine B7 (e := true) j6 (A3 (A1 (wT rfl (A2 (A0 (C3 j5 (A3 (A1 (B1 (B0 (A8 (B0 ?_))))))))))))
                  refine D4 (A8 (A8 (B0 (D4 (A8 (B0 ?_))))))
                  refine C4 rfl fun hw => ?_
                  obtain ⟨w1, w2, w3, w4, w5, w6⟩ := hw
                  obtain ⟨⟨v1, v2, v3, v4, v5, v6, v7⟩, v8⟩ := w5 i0 (by omega)
                  obtain ⟨u1, u2, u3, u4⟩ := v7 k (by omega)
                  first | omega | contradiction
                 ·refine B7 (e := false) j6 (A3 (A1 (wF rfl (B2 (A1 (A2 (A0 (D1 j5 (A3 (A1 (B4 (F0 ?_))))))))))))
                  refine E4 (fun (q : Nat) => [.unk, .ptr 0 0 0, .unk, .int .i64 i0, .ptr m0 0 0, .int .i64 k, .ptr m1 0 0, .int .i64 q]) (fun (q : Nat) => hp [(0, ⟨[[.int .i64 t.tm, .int .i64 t.nx, .sl false n1 (t.lk.map (Lk.T b)), .sl false n2 (t.sn.map Sn.T)]], 4, 35⟩), (m0, ⟨[[.str (t.lk.getD i0 Lk0).nm, .int .i64 (t.lk.getD i0 Lk0).tk, .int .i64 (t.lk.getD i0 Lk0).hd, .int .i64 (t.lk.getD i0 Lk0).ex, .sl false b ((t.lk.getD i0 Lk0).ws.map wtT)]], 5, 29⟩), (m1, ⟨[[.int .i64 ((t.lk.getD i0 Lk0).ws.getD k (0, 0)).1, .int .i64 ((t.lk.getD i0 Lk0).ws.getD k (0, 0)).2]], 2, 123⟩)]) (fun (q : Nat) => m1 + 1) (fun (q : Nat) => q ≤ k ∧ ∀ j, j < q → ¬ ((t.lk.getD i0 Lk0).ws.getD j (0, 0)).1 = ((t.lk.getD i0 Lk0).ws.getD k (0, 0)).1) (fun (q : Nat) => k - q) 0 ?_ ?_ ?_ ?_ ?_
                  ·exact ⟨Nat.zero_le _, N1⟩
                  ·(repeat first | exact LE.nil _ | refine LE.unk _ _ ?_ | refine LE.eq _ _ _ rfl ?_)
                  ·(repeat first | exact E9 | (refine F1 ?_ ?_; exact U1))
                  ·exact Nat.le_refl _
                  intro q hI ih
                  refine E8 (A2 (A2 (A0 (B5 j5 (B5 j5 ?_)))))
                  refine H9 j6 ?_ ?_ <;> intro h18_2
                  ·refine A3 (A1 (wT rfl (B2 (A1 (A2 (B4 (A2 (B9 [0, 1, 0, 7, 15, 31, 0, 64, 255] rfl (by decide +kernel) ?_))))))))
                   refine C9 (off := 4) (s := 1) (r := false) j3 kz j3 ?_
                   (apply D5 (v := .sl _ _ _) j2; exact Q0; rfl; exact j5)
                   refine I2 j5 ?_
                   (apply O4 j4; exact Q4; exact Q20; exact j4)
                   refine dfai (off := 0) (s := 1) (r := false) j3 kz j4 (V7 (v := .int _ _) j8 (C9 (off := 0) (s := 1) (r := false) j3 kz j3 ?_))
                   (apply D5 (v := .int _ _) j2; exact Q0; rfl; exact j5)
                   refine deq j6 ?_ ?_ <;> intro h20_8
                   ·refine B3 9 [0, 1, 0, 0, 0, 0, 0, 1, 0] [] j2 (by decide +kernel) trivial ?_
                    refine A1 (wT rfl (A2 (A0 (C3 j5 (A3 (A1 (B1 (A8 (B0 (D4 (A8 (A8 ?_))))))))))))
                    refine B0 (D4 (A8 (A8 (B0 (D4 (A8 (B0 ?_)))))))
                    refine C4 rfl fun hw => ?_
                    obtain ⟨w1, w2, w3, w4, w5, w6⟩ := hw
                    obtain ⟨⟨v1, v2, v3, v4, v5, v6, v7⟩, v8⟩ := w5 i0 (by omega)
                    obtain ⟨u1, u2, u3, u4⟩ := v7 k (by omega)
                    exact u4 q (by omega) h20_8
                   ·refine B3 9 [0, 1, 0, 0, 0, 0, 0, 1, 0] [] j2 (by decide +kernel) trivial ?_
                    refine A1 (wF rfl (B2 (C0 (A1 (A0 (B5 j5 (D0 j3 ?_ ?_ j3 ?_)))))))
                    ·exact Q4
                    ·exact Q4
                    refine D1 j5 (A3 (E3 ?_))
                    exact I4 (ih (q + 1) ⟨by omega, L5 hI.2 h20_8⟩ (by omega)) (by (repeat first | exact LE.nil _ | refine LE.unk _ _ ?_ | refine LE.eq _ _ _ rfl ?_)) (by (repeat first | exact E9 | (refine F1 ?_ ?_; exact U1))) (Nat.le_refl _)
                  ·refine A3 (A1 (wF rfl (E5 (E6 (D2 (C5 (C0 (A1 (A0 (B5 j5 (D0 j3 ?_ ?_ j3 ?_)))))))))))
                   ·exact Q4
                   ·exact Q4
                   refine D1 j5 (A3 (E3 ?_))
                   exact I4 (ih1 (k + 1, m1 + 1) ⟨by dsimp only; omega, L5 hK1.2.1 ⟨h15_2, by assumption, h15_7, fun j hj => hI.2 j (by omega)⟩, by dsimp only; omega⟩ (by dsimp only; omega)) (by (repeat first | exact LE.nil _ | refine LE.unk _ _ ?_ | refine LE.eq _ _ _ rfl ?_)) (by (repeat first | exact E9 | (refine F1 ?_ ?_; exact U1))) (Nat.le_refl _)
                ·refine E1 (c := false) j5 (B7 (e := true) j6 (C7 j5 (A4 j3 (A4 j3 (A4 j3 (A4 j3 (A4 j3 (B7 (e := true) j6 (A3 (A1 (wT rfl (A2 ?_))))))))))))
                 refine A0 (C3 j5 (A3 (A1 (B1 (B0 (A8 (B0 (D4 (A8 (A8 (B0 (D4 ?_))))))))))))
                 refine A8 (B0 ?_)
                 refine C4 rfl fun hw => ?_
                 obtain ⟨w1, w2, w3, w4, w5, w6⟩ := hw
                 obtain ⟨⟨v1, v2, v3, v4, v5, v6, v7⟩, v8⟩ := w5 i0 (by omega)
                 obtain ⟨u1, u2, u3, u4⟩ := v7 k (by omega)
                 first | omega | contradiction
               ·refine E1 (c := false) j5 (C7 j5 (A4 j3 (A4 j3 (A4 j3 (A4 j3 (B7 (e := true) j6 (C7 j5 (A4 j3 (A4 j3 (A4 j3 (A4 j3 (A4 j3 ?_))))))))))))
                refine B7 (e := true) j6 (A3 (A1 (wT rfl (A2 (A0 (C3 j5 (A3 (A1 (B1 (B0 (A8 (B0 ?_))))))))))))
                refine D4 (A8 (A8 (B0 (D4 (A8 (B0 ?_))))))
                refine C4 rfl fun hw => ?_
                obtain ⟨w1, w2, w3, w4, w5, w6⟩ := hw
                obtain ⟨⟨v1, v2, v3, v4, v5, v6, v7⟩, v8⟩ := w5 i0 (by omega)
                obtain ⟨u1, u2, u3, u4⟩ := v7 k (by omega)
                first | omega | contradiction
              ·refine A3 (A1 (wF rfl (E5 (E6 (D2 (C5 (C0 (A1 (A0 (B5 j5 (D0 j3 ?_ ?_ j3 ?_)))))))))))
               ·exact Q4
               ·exact Q4
               refine D1 j5 (A3 (E3 ?_))
               refine I4 (ih0 (i0 + 1, m1) ⟨by dsimp only; omega, L5 hK0.2.1 ⟨⟨⟨by have := h7_2.1; omega, h7_2.2⟩, by omega, by omega, by omega, by omega, fun he => by omega, fun j hj => hI.2.1 j (by omega)⟩, fun h0 => ?_⟩, by dsimp only; omega⟩ (by dsimp only; omega)) (by (repeat first | exact LE.nil _ | refine LE.unk _ _ ?_ | refine LE.eq _ _ _ rfl ?_)) (by (repeat first | exact E9 | (refine F1 ?_ ?_; exact U1))) (Nat.le_refl _)
               first | omega | (rw [E2] at h7_17; unfold ltS; simpa using h7_17)
           ·refine K6 (c := false) j5 (F4 (e := true) j6 (F9 j5 (A5 j3 (A5 j3 (A5 j3 (A5 j3 (F4 (e := true) j6 (B3 47 [0, 0, 0, 0, 0, 0, 0, 0, 0, 1, 0, 0, 0, 0, 0, 1, 0, 0, 0, 0, 0, 0, 1, 0, 1, 0, 0, 0, 0, 0, 1, 0, 0, 0, 0, 0, 0, 1, 0, 0, 0, 0, 0, 0, 0, 1, 0] [] j2 (by decide +kernel) trivial ?_))))))))
            refine A1 (wT rfl (A2 (A0 (C3 j5 (A3 (A1 (B1 (B0 (A8 (B0 (D4 (A8 ?_))))))))))))
            refine B0 ?_
            refine C4 rfl fun hw => ?_
            obtain ⟨w1, w2, w3, w4, w5, w6⟩ := hw
            obtain ⟨⟨v1, v2, v3, v4, v5, v6, v7⟩, v8⟩ := w5 i0 (by omega)
            first
            | omega
            | exact h7_2 ⟨by have := v1.1; omega, v1.2⟩
            | (have v9 := v8 (by omega); unfold ltS at v9; rw [E2, v9] at h7_17; cases h7_17)
          ·refine K6 (c := false) j5 (F4 (e := true) j6 (F9 j5 (A5 j3 (A5 j3 (A5 j3 (A5 j3 (F4 (e := true) j6 (F9 j5 (A5 j3 (A5 j3 (A5 j3 (A5 j3 ?_))))))))))))
           refine F4 (e := true) j6 (B3 47 [0, 0, 0, 0, 0, 0, 0, 0, 0, 0, 0, 0, 0, 0, 0, 1, 0, 0, 0, 0, 0, 0, 1, 0, 1, 0, 0, 0, 0, 0, 1, 0, 0, 0, 0, 0, 0, 1, 0, 0, 0, 0, 0, 0, 0, 1, 0] [] j2 (by decide +kernel) trivial ?_)
           refine A1 (wT rfl (A2 (A0 (C3 j5 (A3 (A1 (B1 (B0 (A8 (B0 (D4 (A8 ?_))))))))))))
           refine B0 ?_
           refine C4 rfl fun hw => ?_
           obtain ⟨w1, w2, w3, w4, w5, w6⟩ := hw
           obtain ⟨⟨v1, v2, v3, v4, v5, v6, v7⟩, v8⟩ := w5 i0 (by omega)
           first
           | omega
           | exact h7_2 ⟨by have := v1.1; omega, v1.2⟩
           | (have v9 := v8 (by omega); unfold ltS at v9; rw [E2, v9] at h7_17; cases h7_17)
         ·refine K6 (c := false) j5 (F4 (e := true) j6 (F9 j5 (A5 j3 (A5 j3 (A5 j3 (A5 j3 (F4 (e := true) j6 (F9 j5 (A5 j3 (A5 j3 (A5 j3 (A5 j3 ?_))))))))))))
          refine F4 (e := true) j6 (F9 j5 (A5 j3 (A5 j3 (A5 j3 (A5 j3 (F4 (e := true) j6 (B3 47 [0, 0, 0, 0, 0, 0, 0, 0, 0, 0, 0, 0, 0, 0, 0, 0, 0, 0, 0, 0, 0, 0, 1, 0, 1, 0, 0, 0, 0, 0, 1, 0, 0, 0, 0, 0, 0, 1, 0, 0, 0, 0, 0, 0, 0, 1, 0] [] j2 (by decide +kernel) trivial ?_)))))))
          refine A1 (wT rfl (A2 (A0 (C3 j5 (A3 (A1 (B1 (B0 (A8 (B0 (D4 (A8 ?_))))))))))))
          refine B0 ?_
          refine C4 rfl fun hw => ?_
          obtain ⟨w1, w2, w3, w4, w5, w6⟩ := hw
          obtain ⟨⟨v1, v2, v3, v4, v5, v6, v7⟩, v8⟩ := w5 i0 (by omega)
          first
          | omega
          | exact h7_2 ⟨by have := v1.1; omega, v1.2⟩
          | (have v9 := v8 (by omega); unfold ltS at v9; rw [E2, v9] at h7_17; cases h7_17)
       ·refine F9 j5 (A5 j3 (A5 j3 (A5 j3 (A5 j3 (A5 j3 (A5 j3 (A5 j3 (A5 j3 (A5 j3 (A5 j3 (F4 (e := false) j6 (F4 (e := false) j6 ?_))))))))))))
        refine F9 j5 (C9 (off := 1) (s := 1) (r := false) j3 kz j3 ?_)
        (apply D5 (v := .int _ _) j2; exact Q0; rfl; exact j5)
        refine C9 (off := 1) (s := 1) (r := false) j3 kz j3 ?_
        (apply D5 (v := .int _ _) j2; exact Q0; rfl; exact j5)
        refine AF j3 ?_ ?_ j3 ?_
        ·exact Q4
        ·exact Q4
        refine X7 (BD _ _ _) rfl j5 ?_ ?_ <;> intro h7_26
        ·refine K6 (c := true) j5 (F4 (e := false) j6 (F9 j5 (C9 (off := 2) (s := 1) (r := false) j3 kz j3 ?_)))
         (apply D5 (v := .int _ _) j2; exact Q0; rfl; exact j5)
         refine X7 (BD _ _ _) rfl j5 ?_ ?_ <;> intro h7_32
         ·refine K6 (c := true) j5 (F4 (e := false) j6 (F9 j5 (C9 (off := 3) (s := 1) (r := false) j3 kz j3 ?_)))
          (apply D5 (v := .int _ _) j2; exact Q0; rfl; exact j5)
          refine X7 (BD _ _ _) rfl j5 ?_ ?_ <;> intro h7_38
          ·refine K6 (c := true) j5 (F4 (e := false) j6 (F9 j5 (C9 (off := 4) (s := 1) (r := false) j3 kz j3 ?_)))
           (apply D5 (v := .sl _ _ _) j2; exact Q0; rfl; exact j5)
           refine dll rfl rfl rfl j3 ?_
           refine dgt j6 ?_ ?_ <;> intro h7_45
           ·refine F4 (e := true) j6 (B3 47 [0, 0, 0, 1, 0, 0, 0, 0, 0, 1, 0, 0, 0, 0, 0, 1, 0, 0, 0, 0, 0, 0, 1, 0, 1, 0, 0, 0, 0, 0, 0, 0, 0, 0, 0, 0, 0, 0, 0, 0, 0, 0, 0, 0, 0, 1, 0] [] j2 (by decide +kernel) trivial ?_)
            refine A1 (wT rfl (A2 (A0 (C3 j5 (A3 (A1 (B1 (B0 (A8 (B0 (D4 (A8 ?_))))))))))))
            refine B0 ?_
            refine C4 rfl fun hw => ?_
            obtain ⟨w1, w2, w3, w4, w5, w6⟩ := hw
            obtain ⟨⟨v1, v2, v3, v4, v5, v6, v7⟩, v8⟩ := w5 i0 (by omega)
            first
            | omega
            | exact h7_2 ⟨by have := v1.1; omega, v1.2⟩
            | (have v9 := v8 (by omega); unfold ltS at v9; rw [E2, v9] at h7_17; cases h7_17)
           ·refine F4 (e := false) j6 (B3 47 [0, 0, 0, 1, 0, 0, 0, 0, 0, 1, 0, 0, 0, 0, 0, 1, 0, 0, 0, 0, 0, 0, 1, 0, 1, 0, 0, 0, 0, 0, 0, 0, 0, 0, 0, 0, 0, 0, 0, 0, 0, 0, 0, 0, 0, 1, 0] [] j2 (by decide +kernel) trivial ?_)
            refine A1 (wF rfl (B2 (A1 (A2 (A2 (A0 (C2 (off := 2) (s := 1) (r := false) j3 kz j3 ?_)))))))
            (apply C6 (v := .int _ _) j2; exact Q0; rfl; exact j5)
            refine H9 j6 ?_ ?_ <;> intro h9_2
            ·refine C7 j5 (C2 (off := 3) (s := 1) (r := false) j3 kz j3 ?_)
             (apply C6 (v := .int _ _) j2; exact Q0; rfl; exact j5)
             refine rne j6 ?_ ?_ <;> intro h9_6
             ·refine C7 j5 (A4 j3 (A4 j3 (A4 j3 (A4 j3 (B7 (e := true) j6 (B7 (e := true) j6 (A3 (A1 (wT rfl (A2 (A0 (C3 j5 ?_))))))))))))
              refine A3 (A1 (B1 (B0 (A8 (B0 (D4 (A8 (B0 ?_))))))))
              refine C4 rfl fun hw => ?_
              obtain ⟨w1, w2, w3, w4, w5, w6⟩ := hw
              obtain ⟨⟨v1, v2, v3, v4, v5, v6, v7⟩, v8⟩ := w5 i0 (by omega)
              have v9 := v6 (by omega)
              omega
             ·refine C7 j5 (C2 (off := 4) (s := 1) (r := false) j3 kz j3 ?_)
              (apply C6 (v := .sl _ _ _) j2; exact Q0; rfl; exact j5)
              refine G7 rfl rfl rfl j3 ?_
              refine rne j6 ?_ ?_ <;> intro h9_11
              ·refine B7 (e := true) j6 (B7 (e := true) j6 (A3 (A1 (wT rfl (A2 (A0 (C3 j5 (A3 (A1 (B1 (B0 (A8 ?_))))))))))))
               refine B0 (D4 (A8 (B0 ?_)))
               refine C4 rfl fun hw => ?_
               obtain ⟨w1, w2, w3, w4, w5, w6⟩ := hw
               obtain ⟨⟨v1, v2, v3, v4, v5, v6, v7⟩, v8⟩ := w5 i0 (by omega)
               have v9 := v6 (by omega)
               omega
              ·refine B7 (e := false) j6 (B7 (e := false) j6 (A3 (A1 (wF rfl (B2 (A1 (A2 (A0 (D1 j5 (A3 (A1 (B4 ?_))))))))))))
               refine F0 ?_
               refine E4 (fun (a : Nat × Nat) => [.unk, .ptr 0 0 0, .unk, .int .i64 i0, .ptr m0 0 0, .int .i64 a.1]) (fun (a : Nat × Nat) => hp [(0, ⟨[[.int .i64 t.tm, .int .i64 t.nx, .sl false n1 (t.lk.map (Lk.T b)), .sl false n2 (t.sn.map Sn.T)]], 4, 35⟩), (m0, ⟨[[.str (t.lk.getD i0 Lk0).nm, .int .i64 (t.lk.getD i0 Lk0).tk, .int .i64 (t.lk.getD i0 Lk0).hd, .int .i64 (t.lk.getD i0 Lk0).ex, .sl false b ((t.lk.getD i0 Lk0).ws.map wtT)]], 5, 29⟩)]) (fun (a : Nat × Nat) => a.2) (fun (a : Nat × Nat) => a.1 ≤ (t.lk.getD i0 Lk0).ws.length ∧ (∀ j, j < a.1 → wOK (t.lk.getD i0 Lk0) j) ∧ m0 < a.2) (fun (a : Nat × Nat) => (t.lk.getD i0 Lk0).ws.length - a.1) (0, m0 + 1) ?_ ?_ ?_ ?_ ?_
               ·exact ⟨Nat.zero_le _, N1, Nat.lt_succ_self _⟩
               ·(repeat first | exact LE.nil _ | refine LE.unk _ _ ?_ | refine LE.eq _ _ _ rfl ?_)
               ·(repeat first | exact E9 | (refine F1 ?_ ?_; exact U1))
               ·exact Nat.le_refl _
               intro ⟨k, m1⟩ hI ih
               dsimp only at hI ⊢
               have hK1 := hI
               have ih1 := ih
               refine E8 (A2 (A2 (A0 (B5 j5 (C2 (off := 4) (s := 1) (r := false) j3 kz j3 ?_)))))
               (apply C6 (v := .sl _ _ _) j2; exact Q0; rfl; exact j5)
               refine G7 rfl rfl rfl j3 ?_
               refine H9 j6 ?_ ?_ <;> intro h12_4
               ·refine A3 (A1 (wT rfl (B2 (A1 (A2 (B4 (A2 ?_)))))))
                exact absurd h12_4 (by omega)
               ·refine A3 (A1 (wF rfl (E5 (E6 (D2 (C5 (C0 (A1 (A0 (B5 j5 (D0 j3 ?_ ?_ j3 ?_)))))))))))
                ·exact Q4
                ·exact Q4
                refine D1 j5 (A3 (E3 ?_))
                refine I4 (ih0 (i0 + 1, m1) ⟨by dsimp only; omega, L5 hK0.2.1 ⟨⟨⟨by have := h7_2.1; omega, h7_2.2⟩, by omega, by omega, by omega, by omega, fun he => by omega, fun j hj => hI.2.1 j (by omega)⟩, fun h0 => ?_⟩, by dsimp only; omega⟩ (by dsimp only; omega)) (by (repeat first | exact LE.nil _ | refine LE.unk _ _ ?_ | refine LE.eq _ _ _ rfl ?_)) (by (repeat first | exact E9 | (refine F1 ?_ ?_; exact U1))) (Nat.le_refl _)
                first | omega | (rw [E2] at h7_17; unfold ltS; simpa using h7_17)
            ·refine C7 j5 (A4 j3 (A4 j3 (A4 j3 (A4 j3 (A4 j3 (A4 j3 (A4 j3 (A4 j3 (A4 j3 (B7 (e := false) j6 (A3 (A1 ?_))))))))))))
             refine wF rfl (B2 (A1 (A2 (A0 (D1 j5 (A3 (A1 (B4 (F0 ?_)))))))))
             refine E4 (fun (a : Nat × Nat) => [.unk, .ptr 0 0 0, .unk, .int .i64 i0, .ptr m0 0 0, .int .i64 a.1]) (fun (a : Nat × Nat) => hp [(0, ⟨[[.int .i64 t.tm, .int .i64 t.nx, .sl false n1 (t.lk.map (Lk.T b)), .sl false n2 (t.sn.map Sn.T)]], 4, 35⟩), (m0, ⟨[[.str (t.lk.getD i0 Lk0).nm, .int .i64 (t.lk.getD i0 Lk0).tk, .int .i64 (t.lk.getD i0 Lk0).hd, .int .i64 (t.lk.getD i0 Lk0).ex, .sl false b ((t.lk.getD i0 Lk0).ws.map wtT)]], 5, 29⟩)]) (fun (a : Nat × Nat) => a.2) (fun (a : Nat × Nat) => a.1 ≤ (t.lk.getD i0 Lk0).ws.length ∧ (∀ j, j < a.1 → wOK (t.lk.getD i0 Lk0) j) ∧ m0 < a.2) (fun (a : Nat × Nat) => (t.lk.getD i0 Lk0).ws.length - a.1) (0, m0 + 1) ?_ ?_ ?_ ?_ ?_
             ·exact ⟨Nat.zero_le _, N1, Nat.lt_succ_self _⟩
             ·(repeat first | exact LE.nil _ | refine LE.unk _ _ ?_ | refine LE.eq _ _ _ rfl ?_)
             ·(repeat first | exact E9 | (refine F1 ?_ ?_; exact U1))
             ·exact Nat.le_refl _
             intro ⟨k, m1⟩ hI ih
             dsimp only at hI ⊢
             have hK1 := hI
             have ih1 := ih
             refine E8 (A2 (A2 (A0 (B5 j5 (C2 (off := 4) (s := 1) (r := false) j3 kz j3 ?_)))))
             (apply C6 (v := .sl _ _ _) j2; exact Q0; rfl; exact j5)
             refine G7 rfl rfl rfl j3 ?_
             refine H9 j6 ?_ ?_ <;> intro h12_4
             ·refine A3 (A1 (wT rfl (B2 (A1 (A2 (B4 (A2 (A0 (C2 (off := 4) (s := 1) (r := false) j3 kz j3 ?_)))))))))
              (apply C6 (v := .sl _ _ _) j2; exact Q0; rfl; exact j5)
              refine B5 j5 ?_
              (apply K8 j4; exact Q4; exact Q20; exact j4)
              refine N4 (vs := [.int _ _, .int _ _]) j3 kb j4 (H3 j6 ?_)
              (apply D6 (u := .agg [.int _ _, .int _ _]) j3; exact Q0; rfl; rfl; rfl; rfl; rfl; exact kb; rfl; exact j2)
              refine A3 (A1 (A2 (A2 (A0 (C2 (off := 0) (s := 1) (r := false) j3 kz j3 ?_)))))
              (apply C6 (v := .int _ _) j2; exact Q0; rfl; exact j5)
              refine F3 (BD _ _ _) rfl j5 ?_ ?_ <;> intro h15_2
              ·refine E1 (c := true) j5 (C7 j5 (C2 (off := 1) (s := 1) (r := false) j3 kz j3 ?_))
               (apply C6 (v := .int _ _) j2; exact Q0; rfl; exact j5)
               refine F3 (BD _ _ _) rfl j5 ?_ ?_ <;> intro h15_7
               ·refine E1 (c := true) j5 (B7 (e := false) j6 (C7 j5 (C2 (off := 0) (s := 1) (r := false) j3 kz j3 ?_)))
                (apply C6 (v := .int _ _) j2; exact Q0; rfl; exact j5)
                refine C2 (off := 2) (s := 1) (r := false) j3 kz j3 ?_
                (apply C6 (v := .int _ _) j2; exact Q0; rfl; exact j5)
                refine H5 j6 ?_ ?_ <;> intro h15_15
                ·refine B7 (e := true) j6 (A3 (A1 (wT rfl (A2 (A0 (C3 j5 (A3 (A1 (B1 (B0 (A8 (B0 ?_))))))))))))
                 refine D4 (A8 (A8 (B0 (D4 (A8 (B0 ?_))))))
                 refine C4 rfl fun hw => ?_
                 obtain ⟨w1, w2, w3, w4, w5, w6⟩ := hw
                 obtain ⟨⟨v1, v2, v3, v4, v5, v6, v7⟩, v8⟩ := w5 i0 (by omega)
                 obtain ⟨u1, u2, u3, u4⟩ := v7 k (by omega)
                 first | omega | contradiction
                ·refine B7 (e := false) j6 (A3 (A1 (wF rfl (B2 (A1 (A2 (A0 (D1 j5 (A3 (A1 (B4 (F0 ?_))))))))))))
                 refine E4 (fun (q : Nat) => [.unk, .ptr 0 0 0, .unk, .int .i64 i0, .ptr m0 0 0, .int .i64 k, .ptr m1 0 0, .int .i64 q]) (fun (q : Nat) => hp [(0, ⟨[[.int .i64 t.tm, .int .i64 t.nx, .sl false n1 (t.lk.map (Lk.T b)), .sl false n2 (t.sn.map Sn.T)]], 4, 35⟩), (m0, ⟨[[.str (t.lk.getD i0 Lk0).nm, .int .i64 (t.lk.getD i0 Lk0).tk, .int .i64 (t.lk.getD i0 Lk0).hd, .int .i64 (t.lk.getD i0 Lk0).ex, .sl false b ((t.lk.getD i0 Lk0).ws.map wtT)]], 5, 29⟩), (m1, ⟨[[.int .i64 ((t.lk.getD i0 Lk0).ws.getD k (0, 0)).1, .int .i64 ((t.lk.getD i0 Lk0).ws.getD k (0, 0)).2]], 2, 123⟩)]) (fun (q : Nat) => m1 + 1) (fun (q : Nat) => q ≤ k ∧ ∀ j, j < q → ¬ ((t.lk.getD i0 Lk0).ws.getD j (0, 0)).1 = ((t.lk.getD i0 Lk0).ws.getD k (0, 0)).1) (fun (q : Nat) => k - q) 0 ?_ ?_ ?_ ?_ ?_
                 ·exact ⟨Nat.zero_le _, N1⟩
                 ·(repeat first | exact LE.nil _ | refine LE.unk _ _ ?_ | refine LE.eq _ _ _ rfl ?_)
                 ·(repeat first | exact E9 | (refine F1 ?_ ?_; exact U1))
                 ·exact Nat.le_refl _
                 intro q hI ih
                 refine E8 (A2 (A2 (A0 (B5 j5 (B5 j5 ?_)))))
                 refine H9 j6 ?_ ?_ <;> intro h18_2
                 ·refine A3 (A1 (wT rfl (B2 (A1 (A2 (B4 (A2 (B9 [0, 1, 0, 7, 15, 31, 0, 64, 255] rfl (by decide +kernel) ?_))))))))
                  refine C9 (off := 4) (s := 1) (r := false) j3 kz j3 ?_
                  (apply D5 (v := .sl _ _ _) j2; exact Q0; rfl; exact j5)
                  refine I2 j5 ?_
                  (apply O4 j4; exact Q4; exact Q20; exact j4)
                  refine dfai (off := 0) (s := 1) (r := false) j3 kz j4 (V7 (v := .int _ _) j8 (C9 (off := 0) (s := 1) (r := false) j3 kz j3 ?_))
                  (apply D5 (v := .int _ _) j2; exact Q0; rfl; exact j5)
                  refine deq j6 ?_ ?_ <;> intro h20_8
                  ·refine B3 9 [0, 1, 0, 0, 0, 0, 0, 1, 0] [] j2 (by decide +kernel) trivial ?_
                   refine A1 (wT rfl (A2 (A0 (C3 j5 (A3 (A1 (B1 (A8 (B0 (D4 (A8 (A8 ?_))))))))))))
                   refine B0 (D4 (A8 (A8 (B0 (D4 (A8 (B0 ?_)))))))
                   refine C4 rfl fun hw => ?_
                   obtain ⟨w1, w2, w3, w4, w5, w6⟩ := hw
                   obtain ⟨⟨v1, v2, v3, v4, v5, v6, v7⟩, v8⟩ := w5 i0 (by omega)
                   obtain ⟨u1, u2, u3, u4⟩ := v7 k (by omega)
                   exact u4 q (by omega) h20_8
                  ·refine B3 9 [0, 1, 0, 0, 0, 0, 0, 1, 0] [] j2 (by decide +kernel) trivial ?_
                   refine A1 (wF rfl (B2 (C0 (A1 (A0 (B5 j5 (D0 j3 ?_ ?_ j3 ?_)))))))
                   ·exact Q4
                   ·exact Q4
                   refine D1 j5 (A3 (E3 ?_))
                   exact I4 (ih (q + 1) ⟨by omega, L5 hI.2 h20_8⟩ (by omega)) (by (repeat first | exact LE.nil _ | refine LE.unk _ _ ?_ | refine LE.eq _ _ _ rfl ?_)) (by (repeat first | exact E9 | (refine F1 ?_ ?_; exact U1))) (Nat.le_refl _)
                 ·refine A3 (A1 (wF rfl (E5 (E6 (D2 (C5 (C0 (A1 (A0 (B5 j5 (D0 j3 ?_ ?_ j3 ?_)))))))))))
                  ·exact Q4
                  ·exact Q4
                  refine D1 j5 (A3 (E3 ?_))
                  exact I4 (ih1 (k + 1, m1 + 1) ⟨by dsimp only; omega, L5 hK1.2.1 ⟨h15_2, by assumption, h15_7, fun j hj => hI.2 j (by omega)⟩, by dsimp only; omega⟩ (by dsimp only; omega)) (by (repeat first | exact LE.nil _ | refine LE.unk _ _ ?_ | refine LE.eq _ _ _ rfl ?_)) (by (repeat first | exact E9 | (refine F1 ?_ ?_; exact U1))) (Nat.le_refl _)
               ·refine E1 (c := false) j5 (B7 (e := true) j6 (C7 j5 (A4 j3 (A4 j3 (A4 j3 (A4 j3 (A4 j3 (B7 (e := true) j6 (A3 (A1 (wT rfl (A2 ?_))))))))))))
                refine A0 (C3 j5 (A3 (A1 (B1 (B0 (A8 (B0 (D4 (A8 (A8 (B0 (D4 ?_))))))))))))
                refine A8 (B0 ?_)
                refine C4 rfl fun hw => ?_
                obtain ⟨w1, w2, w3, w4, w5, w6⟩ := hw
                obtain ⟨⟨v1, v2, v3, v4, v5, v6, v7⟩, v8⟩ := w5 i0 (by omega)
                obtain ⟨u1, u2, u3, u4⟩ := v7 k (by omega)
                first | omega | contradiction
              ·refine E1 (c := false) j5 (C7 j5 (A4 j3 (A4 j3 (A4 j3 (A4 j3 (B7 (e := true) j6 (C7 j5 (A4 j3 (A4 j3 (A4 j3 (A4 j3 (A4 j3 ?_))))))))))))
               refine B7 (e := true) j6 (A3 (A1 (wT rfl (A2 (A0 (C3 j5 (A3 (A1 (B1 (B0 (A8 (B0 ?_))))))))))))
               refine D4 (A8 (A8 (B0 (D4 (A8 (B0 ?_))))))
               refine C4 rfl fun hw => ?_
               obtain ⟨w1, w2, w3, w4, w5, w6⟩ := hw
               obtain ⟨⟨v1, v2, v3, v4, v5, v6, v7⟩, v8⟩ := w5 i0 (by omega)
               obtain ⟨u1, u2, u3, u4⟩ := v7 k (by omega)
               first | omega | contradiction
             ·refine A3 (A1 (wF rfl (E5 (E6 (D2 (C5 (C0 (A1 (A0 (B5 j5 (D0 j3 ?_ ?_ j3 ?_)))))))))))
              ·exact Q4
              ·exact Q4
              refine D1 j5 (A3 (E3 ?_))
              refine I4 (ih0 (i0 + 1, m1) ⟨by dsimp only; omega, L5 hK0.2.1 ⟨⟨⟨by have := h7_2.1; omega, h7_2.2⟩, by omega, by omega, by omega, by omega, fun he => by omega, fun j hj => hI.2.1 j (by omega)⟩, fun h0 => ?_⟩, by dsimp only; omega⟩ (by dsimp only; omega)) (by (repeat first | exact LE.nil _ | refine LE.unk _ _ ?_ | refine LE.eq _ _ _ rfl ?_)) (by (repeat first | exact E9 | (refine F1 ?_ ?_; exact U1))) (Nat.le_refl _)
              first | omega | (rw [E2] at h7_17; unfold ltS; simpa using h7_17)
          ·refine K6 (c := false) j5 (F4 (e := true) j6 (F9 j5 (A5 j3 (A5 j3 (A5 j3 (A5 j3 (F4 (e := true) j6 (B3 47 [0, 0, 0, 0, 0, 0, 0, 0, 0, 1, 0, 0, 0, 0, 0, 1, 0, 0, 0, 0, 0, 0, 1, 0, 1, 0, 0, 0, 0, 0, 0, 0, 0, 0, 0, 0, 0, 0, 0, 0, 0, 0, 0, 0, 0, 1, 0] [] j2 (by decide +kernel) trivial ?_))))))))
           refine A1 (wT rfl (A2 (A0 (C3 j5 (A3 (A1 (B1 (B0 (A8 (B0 (D4 (A8 ?_))))))))))))
           refine B0 ?_
           refine C4 rfl fun hw => ?_
           obtain ⟨w1, w2, w3, w4, w5, w6⟩ := hw
           obtain ⟨⟨v1, v2, v3, v4, v5, v6, v7⟩, v8⟩ := w5 i0 (by omega)
           first
           | omega
           | exact h7_2 ⟨by have := v1.1; omega, v1.2⟩
           | (have v9 := v8 (by omega); unfold ltS at v9; rw [E2, v9] at h7_17; cases h7_17)
         ·refine K6 (c := false) j5 (F4 (e := true) j6 (F9 j5 (A5 j3 (A5 j3 (A5 j3 (A5 j3 (F4 (e := true) j6 (F9 j5 (A5 j3 (A5 j3 (A5 j3 (A5 j3 ?_))))))))))))
          refine F4 (e := true) j6 (B3 47 [0, 0, 0, 0, 0, 0, 0, 0, 0, 0, 0, 0, 0, 0, 0, 1, 0, 0, 0, 0, 0, 0, 1, 0, 1, 0, 0, 0, 0, 0, 0, 0, 0, 0, 0, 0, 0, 0, 0, 0, 0, 0, 0, 0, 0, 1, 0] [] j2 (by decide +kernel) trivial ?_)
          refine A1 (wT rfl (A2 (A0 (C3 j5 (A3 (A1 (B1 (B0 (A8 (B0 (D4 (A8 ?_))))))))))))
          refine B0 ?_
          refine C4 rfl fun hw => ?_
          obtain ⟨w1, w2, w3, w4, w5, w6⟩ := hw
          obtain ⟨⟨v1, v2, v3, v4, v5, v6, v7⟩, v8⟩ := w5 i0 (by omega)
          first
          | omega
          | exact h7_2 ⟨by have := v1.1; omega, v1.2⟩
          | (have v9 := v8 (by omega); unfold ltS at v9; rw [E2, v9] at h7_17; cases h7_17)
        ·refine K6 (c := false) j5 (F4 (e := true) j6 (F9 j5 (A5 j3 (A5 j3 (A5 j3 (A5 j3 (F4 (e := true) j6 (F9 j5 (A5 j3 (A5 j3 (A5 j3 (A5 j3 ?_))))))))))))
         refine F4 (e := true) j6 (F9 j5 (A5 j3 (A5 j3 (A5 j3 (A5 j3 (F4 (e := true) j6 (B3 47 [0, 0, 0, 0, 0, 0, 0, 0, 0, 0, 0, 0, 0, 0, 0, 0, 0, 0, 0, 0, 0, 0, 1, 0, 1, 0, 0, 0, 0, 0, 0, 0, 0, 0, 0, 0, 0, 0, 0, 0, 0, 0, 0, 0, 0, 1, 0] [] j2 (by decide +kernel) trivial ?_)))))))
         refine A1 (wT rfl (A2 (A0 (C3 j5 (A3 (A1 (B1 (B0 (A8 (B0 (D4 (A8 ?_))))))))))))
         refine B0 ?_
         refine C4 rfl fun hw => ?_
         obtain ⟨w1, w2, w3, w4, w5, w6⟩ := hw
         obtain ⟨⟨v1, v2, v3, v4, v5, v6, v7⟩, v8⟩ := w5 i0 (by omega)
         first
         | omega
         | exact h7_2 ⟨by have := v1.1; omega, v1.2⟩
         | (have v9 := v8 (by omega); unfold ltS at v9; rw [E2, v9] at h7_17; cases h7_17)
      ·refine K6 (c := false) j5 (F9 j5 (A5 j3 (A5 j3 (A5 j3 (A5 j3 (A5 j3 (A5 j3 (A5 j3 (A5 j3 (A5 j3 (A5 j3 (A5 j3 ?_))))))))))))
       refine A5 j3 (A5 j3 (A5 j3 (F4 (e := true) j6 (F9 j5 (A5 j3 (A5 j3 (A5 j3 (A5 j3 (A5 j3 (A5 j3 (A5 j3 (F4 (e := true) j6 ?_))))))))))))
       refine F9 j5 (A5 j3 (A5 j3 (A5 j3 (A5 j3 (F4 (e := true) j6 (F9 j5 (A5 j3 (A5 j3 (A5 j3 (A5 j3 (F4 (e := true) j6 (F9 j5 ?_))))))))))))
       refine A5 j3 (A5 j3 (A5 j3 (A5 j3 (F4 (e := true) j6 (B3 47 [0, 0, 0, 0, 0, 0, 0, 0, 0, 0, 0, 0, 0, 0, 0, 0, 0, 0, 0, 0, 0, 0, 0, 0, 0, 0, 0, 0, 0, 0, 0, 0, 0, 0, 0, 0, 0, 0, 0, 0, 0, 0, 0, 0, 0, 1, 0] [] j2 (by decide +kernel) trivial ?_)))))
       refine A1 (wT rfl (A2 (A0 (C3 j5 (A3 (A1 (B1 (B0 (A8 (B0 (D4 (A8 ?_))))))))))))
       refine B0 ?_
       refine C4 rfl fun hw => ?_
       obtain ⟨w1, w2, w3, w4, w5, w6⟩ := hw
       obtain ⟨⟨v1, v2, v3, v4, v5, v6, v7⟩, v8⟩ := w5 i0 (by omega)
       first
       | omega
       | exact h7_2 ⟨by have := v1.1; omega, v1.2⟩
       | (have v9 := v8 (by omega); unfold ltS at v9; rw [E2, v9] at h7_17; cases h7_17)
     ·refine A3 (A1 (wF rfl (E5 (E6 (D2 (C5 (A1 (A2 (A2 (A0 (D1 j5 (A3 ?_))))))))))))
      refine A1 (B4 (F0 ?_))
      refine E4 (fun (a : Nat × Nat) => [.unk, .ptr 0 0 0, .unk, .unk, .unk, .unk, .unk, .unk, .int .i64 a.1]) (fun (a : Nat × Nat) => hp [(0, ⟨[[.int .i64 t.tm, .int .i64 t.nx, .sl false n1 (t.lk.map (Lk.T b)), .sl false n2 (t.sn.map Sn.T)]], 4, 35⟩)]) (fun (a : Nat × Nat) => a.2) (fun (a : Nat × Nat) => a.1 ≤ t.sn.length ∧ (∀ j, j < a.1 → snAt t j) ∧ 1 ≤ a.2) (fun (a : Nat × Nat) => t.sn.length - a.1) (0, m0) ?_ ?_ ?_ ?_ ?_
      ·exact ⟨Nat.zero_le _, N1, hK0.2.2⟩
      ·(repeat first | exact LE.nil _ | refine LE.unk _ _ ?_ | refine LE.eq _ _ _ rfl ?_)
      ·(repeat first | exact E9 | (refine F1 ?_ ?_; exact U1))
      ·exact Nat.le_refl _
      intro ⟨i, m3⟩ hI ih
      dsimp only at hI ⊢
      refine E8 (A2 (A2 (A0 (B5 j5 (C2 (off := 3) (s := 1) (r := false) j3 kz j3 ?_)))))
      (apply C6 (v := .sl _ _ _) j2; exact Q0; rfl; exact j5)
      refine G7 rfl rfl rfl j3 ?_
      refine H9 j6 ?_ ?_ <;> intro h23_4
      ·refine A3 (A1 (wT rfl (B2 (A1 (A2 (B4 (A2 (A0 (C2 (off := 3) (s := 1) (r := false) j3 kz j3 ?_)))))))))
       (apply C6 (v := .sl _ _ _) j2; exact Q0; rfl; exact j5)
       refine B5 j5 ?_
       (apply K8 j4; exact Q4; exact Q20; exact j4)
       refine N4 (vs := [.int _ _, .int _ _, .int _ _, .int _ _, .int _ _, .int _ _]) j3 kb j4 (H3 j6 ?_)
       (apply D6 (u := .agg [.int _ _, .int _ _, .int _ _, .int _ _, .int _ _, .int _ _]) j3; exact Q0; rfl; rfl; rfl; rfl; rfl; exact kb; rfl; exact j2)
       refine A3 (A1 (A2 (B9 [0, 1, 3, 7, 15, 31, 63, 127, 255, 511, 1023, 2047, 4095, 8191, 16383, 32767, 65535, 131071, 262143, 524287, 1048575, 2097151, 1048575, 5242879, 16777215, 33554431, 67108863, 1048575, 135266303, 536870911, 1073741823, 2147483647] rfl (by decide +kernel) ?_)))
       refine C9 (off := 0) (s := 1) (r := false) j3 kz j3 ?_
       (apply D5 (v := .int _ _) j2; exact Q0; rfl; exact j5)
       refine X7 (BD _ _ _) rfl j5 ?_ ?_ <;> intro h26_2
       ·refine K6 (c := true) j5 (F9 j5 (C9 (off := 1) (s := 1) (r := false) j3 kz j3 ?_))
        (apply D5 (v := .int _ _) j2; exact Q0; rfl; exact j5)
        refine X7 (BD _ _ _) rfl j5 ?_ ?_ <;> intro h26_7
        ·refine K6 (c := true) j5 (F4 (e := false) j6 (F9 j5 (C9 (off := 2) (s := 4) (r := true) j3 kz j3 ?_)))
         (apply L8 (vs := [.int _ _, .int _ _, .int _ _, .int _ _]) j2; exact Q0; rfl; rfl; exact kb; exact j4)
         refine X7 (s82 (t.sn.getD i Sn0).an) rfl j5 ?_ ?_ <;> intro h26_13
         ·refine K6 (c := true) j5 (F4 (e := false) j6 (F9 j5 (I2 j5 ?_)))
          refine dgt j6 ?_ ?_ <;> intro h26_18
          ·refine F9 j5 (C9 (off := 3) (s := 1) (r := false) j3 kz j3 ?_)
           (apply D5 (v := .sl _ _ _) j2; exact Q0; rfl; exact j5)
           refine I2 j5 (AF j3 ?_ ?_ j3 ?_)
           ·exact Q4
           ·exact Q4
           (apply O4 j4; exact Q4; exact Q20; exact j4)
           refine dfai (off := 0) (s := 1) (r := false) j3 kz j4 (V7 (v := .int _ _) j8 (C9 (off := 0) (s := 1) (r := false) j3 kz j3 ?_))
           (apply D5 (v := .int _ _) j2; exact Q0; rfl; exact j5)
           refine dge j6 ?_ ?_ <;> intro h26_29
           ·refine F4 (e := true) j6 (F4 (e := true) j6 (B3 32 [0, 0, 0, 1, 0, 0, 0, 0, 0, 0, 1, 0, 0, 0, 0, 0, 0, 0, 0, 1, 0, 0, 0, 0, 0, 1, 0, 0, 0, 0, 1, 0] [] j2 (by decide +kernel) trivial ?_))
            refine A1 (wT rfl (A2 (A0 (C3 j5 (A3 (A1 (B1 (A8 (B0 (D4 (A8 (B0 ?_))))))))))))
            refine C4 rfl fun hw => ?_
            obtain ⟨w1, w2, w3, w4, w5, w6⟩ := hw
            obtain ⟨⟨v1, v2, v3⟩, v4⟩ := w6 i (by omega)
            first | exact h26_2 v1 | exact h26_7 v2 | exact h26_13 v3 | (have v5 := v4 (by omega); rw [E2] at h26_29; exact Int.not_le.mpr v5 h26_29)
           ·refine F4 (e := false) j6 (F4 (e := false) j6 (B3 32 [0, 0, 0, 1, 0, 0, 0, 0, 0, 0, 1, 0, 0, 0, 0, 0, 0, 0, 0, 1, 0, 0, 0, 0, 0, 1, 0, 0, 0, 0, 1, 0] [] j2 (by decide +kernel) trivial ?_))
            refine A1 (wF rfl (B2 (C0 (A1 (A0 (B5 j5 (D0 j3 ?_ ?_ j3 ?_)))))))
            ·exact Q4
            ·exact Q4
            refine D1 j5 (A3 (E3 ?_))
            exact I4 (ih (i + 1, m3 + 1) ⟨by dsimp only; omega, L5 hI.2.1 ⟨⟨h26_2, h26_7, h26_13⟩, fun h0 => by first | omega | (rw [E2] at h26_29; exact Int.not_le.mp h26_29)⟩, by dsimp only; omega⟩ (by dsimp only; omega)) (by (repeat first | exact LE.nil _ | refine LE.unk _ _ ?_ | refine LE.eq _ _ _ rfl ?_)) (by (repeat first | exact E9 | (refine F1 ?_ ?_; exact U1))) (Nat.le_refl _)
          ·refine F9 j5 (A5 j3 (A5 j3 (A5 j3 (A5 j3 (A5 j3 (A5 j3 (A5 j3 (A5 j3 (A5 j3 (A5 j3 (F4 (e := false) j6 (F4 (e := false) j6 ?_))))))))))))
           refine B3 32 [0, 0, 0, 0, 0, 0, 0, 0, 0, 0, 0, 0, 0, 0, 0, 0, 0, 0, 0, 1, 0, 0, 0, 0, 0, 1, 0, 0, 0, 0, 1, 0] [] j2 (by decide +kernel) trivial ?_
           refine A1 (wF rfl (B2 (C0 (A1 (A0 (B5 j5 (D0 j3 ?_ ?_ j3 ?_)))))))
           ·exact Q4
           ·exact Q4
           refine D1 j5 (A3 (E3 ?_))
           exact I4 (ih (i + 1, m3 + 1) ⟨by dsimp only; omega, L5 hI.2.1 ⟨⟨h26_2, h26_7, h26_13⟩, fun h0 => by first | omega | (rw [E2] at h26_29; exact Int.not_le.mp h26_29)⟩, by dsimp only; omega⟩ (by dsimp only; omega)) (by (repeat first | exact LE.nil _ | refine LE.unk _ _ ?_ | refine LE.eq _ _ _ rfl ?_)) (by (repeat first | exact E9 | (refine F1 ?_ ?_; exact U1))) (Nat.le_refl _)
         ·refine K6 (c := false) j5 (F4 (e := true) j6 (F9 j5 (A5 j3 (A5 j3 (A5 j3 (A5 j3 (A5 j3 (A5 j3 (A5 j3 (A5 j3 (A5 j3 (A5 j3 ?_))))))))))))
          refine A5 j3 (A5 j3 (A5 j3 (A5 j3 (F4 (e := true) j6 (B3 32 [0, 0, 0, 0, 0, 0, 0, 0, 0, 0, 0, 0, 0, 0, 0, 0, 0, 0, 0, 1, 0, 0, 0, 0, 0, 1, 0, 0, 0, 0, 1, 0] [] j2 (by decide +kernel) trivial ?_)))))
          refine A1 (wT rfl (A2 (A0 (C3 j5 (A3 (A1 (B1 (A8 (B0 (D4 (A8 (B0 ?_))))))))))))
          refine C4 rfl fun hw => ?_
          obtain ⟨w1, w2, w3, w4, w5, w6⟩ := hw
          obtain ⟨⟨v1, v2, v3⟩, v4⟩ := w6 i (by omega)
          first | exact h26_2 v1 | exact h26_7 v2 | exact h26_13 v3 | (have v5 := v4 (by omega); rw [E2] at h26_29; exact Int.not_le.mpr v5 h26_29)
        ·refine K6 (c := false) j5 (F4 (e := true) j6 (F9 j5 (A5 j3 (A5 j3 (A5 j3 (A5 j3 (F4 (e := true) j6 (F9 j5 (A5 j3 (A5 j3 (A5 j3 (A5 j3 ?_))))))))))))
         refine A5 j3 (A5 j3 (A5 j3 (A5 j3 (A5 j3 (A5 j3 (A5 j3 (A5 j3 (A5 j3 (A5 j3 (F4 (e := true) j6 (B3 32 [0, 0, 0, 0, 0, 0, 0, 0, 0, 0, 0, 0, 0, 0, 0, 0, 0, 0, 0, 0, 0, 0, 0, 0, 0, 1, 0, 0, 0, 0, 1, 0] [] j2 (by decide +kernel) trivial ?_)))))))))))
         refine A1 (wT rfl (A2 (A0 (C3 j5 (A3 (A1 (B1 (A8 (B0 (D4 (A8 (B0 ?_))))))))))))
         refine C4 rfl fun hw => ?_
         obtain ⟨w1, w2, w3, w4, w5, w6⟩ := hw
         obtain ⟨⟨v1, v2, v3⟩, v4⟩ := w6 i (by omega)
         first | exact h26_2 v1 | exact h26_7 v2 | exact h26_13 v3 | (have v5 := v4 (by omega); rw [E2] at h26_29; exact Int.not_le.mpr v5 h26_29)
       ·refine K6 (c := false) j5 (F9 j5 (A5 j3 (A5 j3 (A5 j3 (A5 j3 (F4 (e := true) j6 (F9 j5 (A5 j3 (A5 j3 (A5 j3 (A5 j3 (F4 (e := true) j6 ?_))))))))))))
        refine F9 j5 (A5 j3 (A5 j3 (A5 j3 (A5 j3 (A5 j3 (A5 j3 (A5 j3 (A5 j3 (A5 j3 (A5 j3 (A5 j3 (A5 j3 ?_))))))))))))
        refine A5 j3 (A5 j3 (F4 (e := true) j6 (B3 32 [0, 0, 0, 0, 0, 0, 0, 0, 0, 0, 0, 0, 0, 0, 0, 0, 0, 0, 0, 0, 0, 0, 0, 0, 0, 0, 0, 0, 0, 0, 1, 0] [] j2 (by decide +kernel) trivial ?_)))
        refine A1 (wT rfl (A2 (A0 (C3 j5 (A3 (A1 (B1 (A8 (B0 (D4 (A8 (B0 ?_))))))))))))
        refine C4 rfl fun hw => ?_
        obtain ⟨w1, w2, w3, w4, w5, w6⟩ := hw
        obtain ⟨⟨v1, v2, v3⟩, v4⟩ := w6 i (by omega)
        first | exact h26_2 v1 | exact h26_7 v2 | exact h26_13 v3 | (have v5 := v4 (by omega); rw [E2] at h26_29; exact Int.not_le.mpr v5 h26_29)
      ·refine A3 (A1 (wF rfl (E5 (E6 (D2 (C5 (A1 (A2 (A0 (C3 j5 (A3 (A1 ?_))))))))))))
       refine B1 ?_
       exact D3 rfl ⟨h1_2, h1_7, by omega, by omega, fun j hj => hK0.2.1 j (by omega), fun j hj => hI.2.1 j (by omega)⟩
  ·refine E1 (c := false) j5 (B7 (e := true) j6 (C7 j5 (A4 j3 (A4 j3 (A4 j3 (A4 j3 (B7 (e := true) j6 (C7 j5 (A4 j3 (A4 j3 (A4 j3 (A4 j3 ?_))))))))))))
   refine B7 (e := true) j6 (A3 (A1 (wT rfl (A2 (A0 (C3 j5 (A3 (A1 (B1 (B0 ?_))))))))))
   refine C4 rfl fun hw => ?_; obtain ⟨w1, w2, w3, w4, w5, w6⟩ := hw; first | contradiction | omega
 ·refine E1 (c := false) j5 (C7 j5 (A4 j3 (A4 j3 (A4 j3 (A4 j3 (B7 (e := true) j6 (C7 j5 (A4 j3 (A4 j3 (A4 j3 (A4 j3 (B7 (e := true) j6 ?_))))))))))))
  refine C7 j5 (A4 j3 (A4 j3 (A4 j3 (A4 j3 (B7 (e := true) j6 (A3 (A1 (wT rfl (A2 (A0 (C3 j5 (A3 ?_))))))))))))
  refine A1 (B1 (B0 ?_))
  refine C4 rfl fun hw => ?_; obtain ⟨w1, w2, w3, w4, w5, w6⟩ := hw; first | contradiction | omega
open Go.V
set_option linter.unusedVariables false
set_option linter.unusedSimpArgs false
set_option maxRecDepth 20000
set_option maxHeartbeats 4000000
def strT (s : ByteArray) : List T := [.str s]
theorem s86 (s : ByteArray) : Pure En 86 [.one (.str s)] [.one (.bool (decide (s.size > 65536)))] := by
 refine Pure.of_wp Try.func86 rfl kb ?_
 refine A2 (A0 (C3 j5 (A3 (A1 (A2 (A0 (T7 j5 (rls rfl j5 ?_))))))))
 refine V9 j6 ?_ ?_ <;> intro h1_2
 ·refine C3 j5 (A3 (A1 (B1 ?_)))
  first | exact D3 rfl (by omega) | exact C4 rfl (by omega)
 ·refine C3 j5 (A3 (A1 (B1 ?_)))
  first | exact D3 rfl (by omega) | exact C4 rfl (by omega)
theorem o122 (fr nn : Bool) (L : List ByteArray) (hL : L.length ≤ 1048576) {h : Heap} {n : Nat} : ∃ r : Int, (0 ≤ r ↔ ∃ s ∈ L, s.size > 65536) ∧ V.Open En 122 [.sl fr nn (L.map strT), .clo 86 []] h n (.int .i64 r) [] n := by
 have hl : (L.map strT).length = L.length := List.length_map ..
 refine V.Open.of_wpX (v := fun r => .int .i64 r) (wr := fun _ => []) (m := fun _ => n) Try.func122 rfl kb ?_
 refine A2 (A0 (D1 j5 (A3 (A1 (A2 (A2 (A0 (J7 j5 (G7 rfl rfl rfl j3 (B5 j5 (A3 (A1 ?_))))))))))))
 refine B4 (F0 ?_)
 refine E4 (fun (i : Nat) => [.sl fr nn (L.map strT), .clo 86 [], .unk, .unk, .unk, .unk, .unk, .int .i64 (L.map strT).length, .int .i64 i]) (fun (i : Nat) => h) (fun (i : Nat) => n) (fun (i : Nat) => i ≤ L.length ∧ ∀ j, j < i → ¬ (L.getD j ⟨#[]⟩).size > 65536) (fun (i : Nat) => L.length - i) 0 ?_ ?_ ?_ ?_ ?_
 ·exact ⟨Nat.zero_le _, N1⟩
 ·(repeat first | exact LE.nil _ | refine LE.unk _ _ ?_ | refine LE.eq _ _ _ rfl ?_)
 ·exact LessH.refl _
 ·exact Nat.le_refl _
 intro i hI ih
 refine E8 (A2 (A0 ?_))
 refine H9 j6 ?_ ?_ <;> intro h2_0
 ·refine A3 (A1 (A2 (wT rfl (B2 (A1 (A2 (B4 (A2 (A0 (B5 j5 (D1 j5 (A3 ?_))))))))))))
  refine A1 (A2 (A0 (rmC j5 (J7 j5 (B5 j5 ?_)))))
  (apply K8 j4; exact Q4; (first | rfl | assumption | (exact D8 strT ⟨#[]⟩ (by omega))); exact j4)
  refine rlic (v := .str _) j8 ?_
  refine F3 (s86 _) rfl j5 ?_ ?_ <;> intro h4_5
  ·refine A3 (A1 (wT rfl (A2 (A0 (B5 j5 (D1 j5 (A3 (A1 (B1 (A8 (B0 (D4 ?_))))))))))))
   refine A8 (B0 ?_)
   exact ⟨i, ⟨fun _ => ⟨L.getD i ⟨#[]⟩, by rw [List.getD_eq_getElem?_getD, List.getElem?_eq_getElem (show i < L.length by omega)]; exact List.getElem_mem _, h4_5⟩, fun _ => by omega⟩, F2 rfl rfl (fun _ _ _ e => e) (Nat.le_refl _)⟩
  ·refine A3 (A1 (wF rfl (B2 (C0 (A1 (A0 (D0 j3 ?_ ?_ j3 ?_)))))))
   ·exact Q4
   ·exact Q4
   refine B5 j5 (A3 (E3 ?_))
   exact I4 (ih (i + 1) ⟨by omega, L5 hI.2 h4_5⟩ (by omega)) (by (repeat first | exact LE.nil _ | refine LE.unk _ _ ?_ | refine LE.eq _ _ _ rfl ?_)) (LessH.refl _) (Nat.le_refl _)
 ·refine A3 (A1 (A2 (wF rfl (E5 (E6 (D2 (C5 (A1 (A2 (A0 (D1 j5 (A3 ?_))))))))))))
  refine A1 (B1 ?_)
  exact ⟨-1, ⟨fun h => absurd h (by decide), fun ⟨s, h1, h2⟩ => by
   obtain ⟨j, hj, rfl⟩ := List.getElem_of_mem h1
   have := hI.2 j (by omega)
   rw [List.getD_eq_getElem?_getD, List.getElem?_eq_getElem hj] at this
   exact absurd h2 this⟩, F2 rfl rfl (fun _ _ _ e => e) (Nat.le_refl _)⟩
theorem o85 (fr nn : Bool) (L : List ByteArray) (hL : L.length ≤ 1048576) {h : Heap} {n : Nat} : V.Open En 85 [.sl fr nn (L.map strT), .clo 86 []] h n (.bool (decide (∃ s ∈ L, s.size > 65536))) [] n := by
 refine V.Open.of_wp Try.func85 rfl kb ?_
 refine A2 (A0 (C3 j5 (A3 (A1 (A2 (A0 (J7 j5 (rmC j5 (J9 (o122 fr nn L hL) rfl j5 ?_)))))))))
 rintro r h1_2
 try dsimp only at h1_2
 refine rge j6 ?_ ?_ <;> intro h1_3
 ·refine C3 j5 (A3 (A1 (B1 ?_)))
  first
   | (rw [decide_eq_true (h1_2.1 h1_3)]; exact F2 rfl rfl (fun _ _ _ e => e) (Nat.le_refl _))
   | (rw [decide_eq_false (fun e => h1_3 (h1_2.2 e))]; exact F2 rfl rfl (fun _ _ _ e => e) (Nat.le_refl _))
 ·refine C3 j5 (A3 (A1 (B1 ?_)))
  first
   | (rw [decide_eq_true (h1_2.1 h1_3)]; exact F2 rfl rfl (fun _ _ _ e => e) (Nat.le_refl _))
   | (rw [decide_eq_false (fun e => h1_3 (h1_2.2 e))]; exact F2 rfl rfl (fun _ _ _ e => e) (Nat.le_refl _))
theorem s47 (s : ByteArray) : Pure En 47 [.one (.sl true [[.str s]])] [.one (.bool (decide (s.size > 65536)))] := by
 refine Pure.of_wp Try.func47 rfl kb ?_
 refine A2 (A0 (C3 j5 (A3 (A1 (A2 (A0 (J7 j5 (ropB (o85 false true [s] kb) rfl j5 ?_ ?_))))))))
 all_goals intro h1_1
 ·refine C3 j5 (A3 (A1 (B1 ?_)))
  first
   | exact D3 rfl (by have := of_decide_eq_true h1_1; simpa using this)
   | exact C4 rfl (by have := of_decide_eq_false h1_1; simpa using this)
 ·refine C3 j5 (A3 (A1 (B1 ?_)))
  first
   | exact D3 rfl (by have := of_decide_eq_true h1_1; simpa using this)
   | exact C4 rfl (by have := of_decide_eq_false h1_1; simpa using this)
def cb (a b : ByteArray) : Int := Lib.compareBytes a.data.toList b.data.toList
theorem hcmp (a b : ByteArray) (w : World) : (callFunc 144 #[.string a, .string b]).run En.P w = .ok (.value (.int .i64 (cb a b))) w := by
 show (callFunc 144 #[.string a, .string b]).run Try.prog w = _
 rw [run_callFunc_extern Try.func144 (by kernel_rfl) (by kernel_rfl) (by kernel_rfl) (e := Extern.BytealgCompare.compare) (by kernel_rfl), Lib.run_compareString]; rfl
theorem s123 (a b : ByteArray) : Pure En 123 [.one (.str a), .one (.str b)] [.one (.int .i64 (cb a b))] := by
 refine Pure.of_wp Try.func123 rfl kb ?_
 refine A2 (A0 (D1 j5 (A3 (A1 (A2 (A0 (T7 j5 (T7 j5 (rx2 (hcmp a b) rfl j6 (D1 j5 (A3 (A1 ?_))))))))))))
 refine B1 ?_
 exact fin rfl rfl
theorem s89 (a b : ByteArray) : Pure En 89 [.one (.str a), .one (.str b)] [.one (.int .i64 (cb a b))] := by
 refine Pure.of_wp Try.func89 rfl kb ?_
 refine A2 (A0 (D1 j5 (A3 (A1 (A2 (A0 (T7 j5 (T7 j5 (AS (s123 a b) rfl j5 (D1 j5 (A3 (A1 ?_))))))))))))
 refine B1 ?_
 exact fin rfl rfl
def Lk.V (l : Lk) (W : V) : List V := [.str l.nm, .int .i64 l.tk, .int .i64 l.hd, .int .i64 l.ex, W]
theorem o88 (l : Lk) (W : V) (hW : W.cell = true) (s : ByteArray) {h : Heap} {n : Nat} : V.Open En 88 [.agg (l.V W), .str s] h n (.int .i64 (cb l.nm s)) [] (n + 1) := by
 refine V.Open.of_wp Try.func88 rfl kb ?_
 refine A2 (A0 ?_)
 (refine K7 (u := .agg (l.V W)) j3 ?_ j3 ?_; (show (W.cell && true) = true; rw [hW]; rfl))
 refine D1 j5 (A3 (A1 (A2 (A0 (C2 (off := 0) (s := 1) (r := false) j3 kz j3 ?_)))))
 (apply C6 (v := .str _) j2; exact Q0; rfl; exact j5)
 refine T7 j5 (AS (s89 _ _) rfl j5 (D1 j5 (A3 (A1 (B1 ?_)))))
 exact F2 rfl rfl (K9 (fun j hj => absurd hj List.not_mem_nil) (fun j hj hn => by first | rfl | (simp (disch := omega) only [↓app0, ↓appC, ↓updS, ↓updN]))) (Nat.le_refl _)
theorem cmpL : ∀ a b : List UInt8, (Lib.compareBytes a b < 0 ↔ a < b) ∧ (Lib.compareBytes a b = 0 ↔ a = b)
 | [], [] => by simp [Lib.compareBytes]
 | [], _ :: _ => by simp [Lib.compareBytes]
 | _ :: _, [] => by simp [Lib.compareBytes]
 | a :: x, b :: y => by
  have ih := cmpL x y
  unfold Lib.compareBytes
  rw [List.cons_lt_cons_iff, List.cons.injEq]
  by_cases h1 : a < b
  ·rw [if_pos h1]
   refine ⟨⟨fun _ => .inl h1, fun _ => by decide⟩, fun e => absurd e (by decide), fun e => ?_⟩
   rw [e.1] at h1; exact absurd h1 (UInt8.lt_irrefl _)
  ·rw [if_neg h1]
   by_cases h2 : b < a
   ·rw [if_pos h2]
    refine ⟨⟨fun e => absurd e (by decide), fun e => ?_⟩, fun e => absurd e (by decide), fun e => ?_⟩
    ·rcases e with e | e
     ·exact absurd e h1
     ·rw [e.1] at h2; exact absurd h2 (UInt8.lt_irrefl _)
    ·rw [e.1] at h2; exact absurd h2 (UInt8.lt_irrefl _)
   ·rw [if_neg h2]
    have e : a = b := UInt8.le_antisymm (UInt8.not_lt.1 h2) (UInt8.not_lt.1 h1)
    subst e
    simp [h1, ih.1, ih.2]
theorem Y2 : ∀ (x y : List UInt8), Op.bytesLess x y = decide (x < y)
 | [], [] => by simp [Op.bytesLess]
 | _ :: _, [] => by simp [Op.bytesLess]
 | [], _ :: _ => by simp [Op.bytesLess]
 | a :: x, b :: y => by
  rw [Op.bytesLess, Y2 x y]
  simp only [List.cons_lt_cons_iff]
  by_cases h1 : a < b <;> by_cases h2 : a = b <;> by_cases h3 : x < y <;> simp [h1, h2, h3]
theorem V2 (a b : ByteArray) : ltS a b ↔ a.data.toList < b.data.toList := by
 unfold ltS
 rw [Lib.toList_data, Lib.toList_data, Y2, decide_eq_true_iff]
instance (a b : ByteArray) : Decidable (ltS a b) := by unfold ltS; infer_instance
theorem Y3 {a b : ByteArray} : cb a b < 0 ↔ ltS a b := by rw [V2]; exact (cmpL _ _).1
theorem cb_eq {a b : ByteArray} : cb a b = 0 ↔ a = b := by
 unfold cb
 rw [(cmpL _ _).2]
 constructor
 ·intro e; cases a; cases b; simp at e ⊢; cases ‹Array UInt8›; cases ‹Array UInt8›; simpa using e
 ·intro e; rw [e]
theorem ltS_irr (a : ByteArray) : ¬ ltS a a := by rw [V2]; exact List.lt_irrefl _
theorem I5 {a b c : ByteArray} : ltS a b → ltS b c → ltS a c := by
 rw [V2, V2, V2]; exact fun h1 h2 => List.lt_trans h1 h2
def lnm (L : List Lk) (i : Nat) : ByteArray := (L.getD i Lk0).nm
def Srt (L : List Lk) : Prop := ∀ i, 0 < i → i < L.length → ltS (lnm L (i - 1)) (lnm L i)
theorem Srt.lt {L : List Lk} (hs : Srt L) {i : Nat} : ∀ {j : Nat}, i < j → j < L.length → ltS (lnm L i) (lnm L j)
 | 0, h, _ => absurd h (Nat.not_lt_zero _)
 | j + 1, h, h1 => by
  have e := hs (j + 1) (Nat.succ_pos _) h1
  rw [Nat.add_sub_cancel] at e
  by_cases e2 : i = j
  ·subst e2; exact e
  ·exact I5 (hs.lt (j := j) (by omega) (by omega)) e
theorem Tb.OK.srt {t : Tb} (h : t.OK) : Srt t.lk := fun i h0 h1 => (h.2.2.2.2.1 i h1).2 h0
def pos (s : ByteArray) : List Lk → Nat
 | [] => 0
 | l :: r => if ltS l.nm s then pos s r + 1 else 0
theorem U4 {s : ByteArray} : ∀ {L : List Lk} {p : Nat}, p ≤ L.length → (∀ j, j < p → ltS (lnm L j) s) → (p < L.length → ¬ ltS (lnm L p) s) → pos s L = p
 | [], p, h, _, _ => by simp at h; subst h; rfl
 | l :: r, 0, _, _, h => by unfold pos; rw [if_neg (by simpa [lnm] using h (by simp))]
 | l :: r, p + 1, h, h1, h2 => by
  unfold pos
  rw [if_pos (by simpa [lnm] using h1 0 (Nat.succ_pos _)), U4 (L := r) (p := p) (by simpa using h) (fun j hj => by simpa [lnm] using h1 (j + 1) (by omega)) (fun h3 => by simpa [lnm] using h2 (by simpa using h3))]
def hit (s : ByteArray) (L : List Lk) : Prop := pos s L < L.length ∧ lnm L (pos s L) = s
instance (s : ByteArray) (L : List Lk) : Decidable (hit s L) := by unfold hit; infer_instance
theorem hit_of {s : ByteArray} {L : List Lk} (hs : Srt L) {i : Nat} (h : i < L.length) (e : lnm L i = s) : pos s L = i ∧ hit s L := by
 have : pos s L = i := U4 (Nat.le_of_lt h) (fun j hj => e ▸ hs.lt hj h) (fun _ => by rw [e]; exact ltS_irr s)
 exact ⟨this, by rw [this]; exact h, by rw [this]; exact e⟩
theorem hit_no {s : ByteArray} {L : List Lk} (h : ∀ j, j < L.length → ¬ lnm L j = s) : ¬ hit s L := fun e => h _ e.1 e.2
def fix (s : ByteArray) (L : List Lk) : Int := if hit s L then pos s L else -1
theorem s43 (t : Tb) (b n1 n2 : Bool) (s : ByteArray) (hs : Srt t.lk) (hL : t.lk.length ≤ 1048576) : Pure En 43 [.agg (t.T b n1 n2), .one (.str s)] [.one (.int .i64 (fix s t.lk))] := by
 have hl : (t.lk.map (Lk.T b)).length = t.lk.length := List.length_map ..
 refine Pure.of_wp Try.func43 rfl kb ?_
 refine A2 (A0 (K7 (u := .agg [.int _ _, .int _ _, _, _]) j3 rfl j3 (D1 j5 (A3 (A1 (A2 (A2 (A0 (D1 j5 (A3 (A1 (B4 ?_))))))))))))
 refine F0 ?_
 refine E4 (fun (i : Nat) => [.unk, .str s, .ptr 0 0 0, .unk, .unk, .int .i64 i]) (fun (i : Nat) => hp [(0, ⟨[[.int .i64 t.tm, .int .i64 t.nx, .sl false n1 (t.lk.map (Lk.T b)), .sl false n2 (t.sn.map Sn.T)]], 4, 35⟩)]) (fun (i : Nat) => 1) (fun (i : Nat) => i ≤ t.lk.length ∧ ∀ j, j < i → ¬ lnm t.lk j = s) (fun (i : Nat) => t.lk.length - i) 0 ?_ ?_ ?_ ?_ ?_
 ·exact ⟨Nat.zero_le _, N1⟩
 ·(repeat first | exact LE.nil _ | refine LE.unk _ _ ?_ | refine LE.eq _ _ _ rfl ?_)
 ·(repeat first | exact E9 | (refine F1 ?_ ?_; exact U1))
 ·exact Nat.le_refl _
 intro i hI ih
 refine E8 (A2 (A2 (A0 (B5 j5 (C2 (off := 2) (s := 1) (r := false) j3 kz j3 ?_)))))
 (apply C6 (v := .sl _ _ _) j2; exact Q0; rfl; exact j5)
 refine G7 rfl rfl rfl j3 ?_
 refine H9 j6 ?_ ?_ <;> intro h2_4
 ·refine A3 (A1 (wT rfl (B2 (A1 (A2 (B4 (A2 (A0 (C2 (off := 2) (s := 1) (r := false) j3 kz j3 ?_)))))))))
  (apply C6 (v := .sl _ _ _) j2; exact Q0; rfl; exact j5)
  refine B5 j5 ?_
  (apply K8 j4; exact Q4; (first | rfl | assumption | (exact D8 (Lk.T b) Lk0 (k := i) (by omega))); exact j4)
  refine rfai (off := 0) (s := 1) (r := false) j3 kz j4 (rlic (v := .str _) j8 (T7 j5 ?_))
  refine rseq j6 ?_ ?_ <;> intro h4_7
  ·refine A3 (A1 (wT rfl (A2 (A0 (B5 j5 (D1 j5 (A3 (A1 (B1 (A8 (B0 (D4 ?_))))))))))))
   refine A8 (B0 ?_)
   first | (rw [fix, if_pos (hit_of hs (i := i) (by omega) h4_7).2, (hit_of hs (i := i) (by omega) h4_7).1]; exact fin rfl rfl)
  ·refine A3 (A1 (wF rfl (B2 (C0 (A1 (A0 (B5 j5 (D0 j3 ?_ ?_ j3 ?_))))))))
   ·exact Q4
   ·exact Q4
   refine D1 j5 (A3 (E3 ?_))
   exact I4 (ih (i + 1) ⟨by omega, L5 hI.2 h4_7⟩ (by omega)) (by (repeat first | exact LE.nil _ | refine LE.unk _ _ ?_ | refine LE.eq _ _ _ rfl ?_)) (by (repeat first | exact E9 | (refine F1 ?_ ?_; exact U1))) (Nat.le_refl _)
 ·refine A3 (A1 (wF rfl (E5 (E6 (D2 (C5 (A1 (A2 (A0 (D1 j5 (A3 (A1 ?_))))))))))))
  refine B1 ?_
  rw [fix, if_neg (hit_no fun j hj => hI.2 j (by omega))]; exact fin rfl rfl
open Go.V
set_option linter.unusedVariables false
set_option linter.unusedSimpArgs false
set_option maxRecDepth 20000
set_option maxHeartbeats 4000000
def mkG {α : Type} (f : α → List V) (z : List V) (L : List α) (i : Nat) : List (List V) := (L.take i).map f ++ List.replicate (L.length - i) z
theorem famA {w : Nat → Nat} {F : Nat → Option Blk} {n : Nat} {wr : List (Nat × Option Blk)} {h : Heap} {i : Nat} (inj : ∀ i j, i < n → j < n → w i = w j → i = j) (hi : i < n) : app (wr ++ famL w F n) h (w i) = F i := by
 rw [I3]; exact famI inj hi
theorem famAO {w : Nat → Nat} {F : Nat → Option Blk} {n : Nat} {wr : List (Nat × Option Blk)} {h : Heap} {id : Nat} (ho : ∀ i, i < n → w i ≠ id) : app (wr ++ famL w F n) h id = app wr h id := by
 rw [I3]; exact famO ho
def Sn.V (s : Sn) : List V := [.int .i64 s.cl, .int .i64 s.st, .int .i64 s.an.kd, .int .i64 s.an.tk, .int .i64 s.an.hd, .int .i64 s.an.ex]
def rwV (w : Nat → Nat) (L : List Lk) (i : Nat) : List V := (L.getD i Lk0).V (.view (w i) 0 (L.getD i Lk0).ws.length)
def lkR (w : Nat → Nat) (L : List Lk) : List (List V) := (List.range L.length).map (rwV w L)
def wsF (L : List Lk) (i : Nat) : Option Blk := some ⟨(L.getD i Lk0).ws.map wtV, 2, 123⟩
def zL : List V := [.str ⟨#[]⟩, .int .i64 0, .int .i64 0, .int .i64 0, .nsl]
theorem AZ (w : Nat → Nat) (L : List Lk) : (lkR w L).length = L.length := by simp [lkR]
theorem lkR_get (w : Nat → Nat) (L : List Lk) {i : Nat} (h : i < L.length) : (lkR w L)[i]? = some (rwV w L i) := by simp [lkR, h]
theorem rowsSnV (fr : Bool) (L : List Sn) : ((L.map Sn.T).map fun r => r.map (T.toV fr)) = L.map Sn.V := by
 rw [List.map_map]; rfl
theorem lenSnF (fr : Bool) (L : List Sn) : ∀ c ∈ (L.map Sn.T).map (fun r => r.map (T.toV fr)), c.length = 6 := by
 rw [rowsSnV]; intro c hc; obtain ⟨r, hr, rfl⟩ := List.mem_map.1 hc; rfl
theorem rowsWtV (fr : Bool) (L : List Wt) : ((L.map wtT).map fun r => r.map (T.toV fr)) = L.map wtV := by
 rw [List.map_map]; rfl
theorem lenWtF (fr : Bool) (L : List Wt) : ∀ c ∈ (L.map wtT).map (fun r => r.map (T.toV fr)), c.length = 2 := by
 rw [rowsWtV]; intro c hc; obtain ⟨r, hr, rfl⟩ := List.mem_map.1 hc; rfl
theorem snapWs {h : Heap} {ids : List Nat} {r : Bool} {id m : Nat} {L : List Wt} (hid : id ∈ ids) (hb : h id = some ⟨L.map wtV, 2, 123⟩) (hm : m = L.length) : Snap h ids r (.view id 0 m) (.sl true (L.map wtT)) :=
 H8 (L.map wtT) hid hb (rowsWtV true L).symm (by rw [List.length_map]; exact hm)
theorem snapSn {h : Heap} {ids : List Nat} {r : Bool} {id m : Nat} {L : List Sn} (hid : id ∈ ids) (hb : h id = some ⟨L.map Sn.V, 6, 115⟩) (hm : m = L.length) : Snap h ids r (.view id 0 m) (.sl true (L.map Sn.T)) :=
 H8 (L.map Sn.T) hid hb (rowsSnV true L).symm (by rw [List.length_map]; exact hm)
theorem snapLk {h : Heap} {ids : List Nat} {r : Bool} {id m : Nat} {w : Nat → Nat} {L : List Lk} (hid : id ∈ ids) (hb : h id = some ⟨lkR w L, 5, 29⟩) (hm : m = L.length)
  (hw : ∀ i, i < L.length → w i ∈ ids) (hf : ∀ i, i < L.length → h (w i) = wsF L i) : Snap h ids r (.view id 0 m) (.sl true (L.map (Lk.T true))) := by
 subst hm
 have e : ((lkR w L).drop 0).take L.length = lkR w L := by rw [List.drop_zero, List.take_of_length_le (by rw [AZ]; exact Nat.le_refl _)]
 have e2 : ∀ i, i < L.length → (L.map (Lk.T true))[i]? = some ((L.getD i Lk0).T true) := fun i h => D8 (Lk.T true) Lk0 h
 refine .view id 0 _ _ _ hid hb (by dsimp only; rw [AZ]; omega) (by simp) (fun i x y h1 h2 => ?_) (fun i j x y h1 h2 => ?_)
 ·dsimp only at h1
  rw [e] at h1
  have hi : i < L.length := by have := (List.getElem?_eq_some_iff.1 h1).1; rw [AZ] at this; exact this
  rw [lkR_get w L hi] at h1; rw [e2 i hi] at h2
  cases h1; cases h2; rfl
 ·dsimp only at h1
  rw [e] at h1
  unfold get2 at h1 h2
  by_cases hi : i < L.length
  ·rw [lkR_get w L hi] at h1; rw [e2 i hi] at h2
   match j with
   | 0 => cases h1; cases h2; exact .str _
   | 1 => cases h1; cases h2; exact .int _ _
   | 2 => cases h1; cases h2; exact .int _ _
   | 3 => cases h1; cases h2; exact .int _ _
   | 4 => cases h1; cases h2; exact snapWs (hw i hi) (hf i hi) rfl
   | j + 5 => exact absurd h1 nofun
  ·rw [show (lkR w L)[i]? = none from List.getElem?_eq_none (by rw [AZ]; omega)] at h1; exact absurd h1 nofun
theorem snapTb {h : Heap} {ids : List Nat} {r : Bool} {lb sb m1 m2 : Nat} {w : Nat → Nat} {t : Tb} (hl : lb ∈ ids) (hs : sb ∈ ids) (hw : ∀ i, i < t.lk.length → w i ∈ ids)
  (k1 : h lb = some ⟨lkR w t.lk, 5, 29⟩) (kf : ∀ i, i < t.lk.length → h (w i) = wsF t.lk i) (k2 : h sb = some ⟨t.sn.map Sn.V, 6, 115⟩) (G0 : m1 = t.lk.length ∧ m2 = t.sn.length) :
  SnapA h ids r (.agg [.int .i64 t.tm, .int .i64 t.nx, .view lb 0 m1, .view sb 0 m2]) (.agg (t.T true true true)) := have ⟨e1, e2⟩ := G0;
 SnapC.agg (.cons _ _ _ _ (.int _ _) (.cons _ _ _ _ (.int _ _) (.cons _ _ _ _ (snapLk hl k1 e1 hw kf) (.cons _ _ _ _ (snapSn hs k2 e2) .nil))))
open Go.V
set_option linter.unusedVariables false
set_option linter.unusedSimpArgs false
set_option maxRecDepth 20000
set_option maxHeartbeats 4000000
open Go.V
set_option linter.unusedVariables false
set_option linter.unusedSimpArgs false
set_option maxRecDepth 20000
set_option maxHeartbeats 4000000
def szv (k : Int) (m : Nat) : Int := if k - m < 0 then -1 else k - m
open Go.V
set_option linter.unusedVariables false
set_option linter.unusedSimpArgs false
set_option maxRecDepth 20000
set_option maxHeartbeats 4000000
theorem S6 (l : List Int) : (strOf l).size = l.length := by
 simp [strOf, ByteArray.size]
theorem qd {a : Int} (h0 : 0 < a) (h1 : a ≤ 1152921504606846976) : 0 ≤ IntKind.i64.wrap (a.tdiv 10) ∧ IntKind.i64.wrap (a.tdiv 10) < a := by
 rw [Int.tdiv_eq_ediv_of_nonneg (by omega), wrap_i64 (by omega) (by omega)]; omega
theorem rd {a : Int} (h0 : 0 < a) (h1 : a ≤ 1152921504606846976) : 0 ≤ a.tmod 10 ∧ a.tmod 10 ≤ 9 := by
 rw [Int.tmod_eq_emod_of_nonneg (by omega)]; omega
theorem s94 (k : Int) (hk : 0 ≤ k ∧ k ≤ 1152921504606846976) : ∃ s : ByteArray, True ∧ Pure En 94 [.one (.int .i64 k)] [.one (.str s)] := by
 refine Pure.of_wpX Try.func94 rfl kb ?_
 refine A2 (A0 (raS j5 (A3 (A1 (A2 (A2 (A0 (B5 j5 ?_))))))))
 refine rle j6 ?_ ?_ <;> intro h1_1
 ·refine A3 (A1 (wT rfl (A2 (A0 (raS j5 (A3 (A1 (B1 (B0 ?_)))))))))
  first | exact ⟨_, trivial, fin rfl rfl⟩
 ·refine A3 (A1 (wF rfl (B2 (A1 (A2 (A0 (raS j5 (A3 (A1 (A2 (B4 (F0 ?_))))))))))))
  refine E4 (fun (a : Int × ByteArray × Nat) => [.int .i64 a.1, .unk, .unk, .str a.2.1]) (fun (a : Int × ByteArray × Nat) => hp []) (fun (a : Int × ByteArray × Nat) => a.2.2) (fun (a : Int × ByteArray × Nat) => 0 ≤ a.1 ∧ (a.2.1.size : Int) + a.1 ≤ k) (fun (a : Int × ByteArray × Nat) => a.1.toNat) (k, ⟨#[]⟩, 0) ?_ ?_ ?_ ?_ ?_
  ·exact ⟨by dsimp only; omega, by show ((0 : Nat) : Int) + k ≤ k; omega⟩
  ·(repeat first | exact LE.nil _ | refine LE.unk _ _ ?_ | refine LE.eq _ _ _ rfl ?_)
  ·exact E9
  ·exact Nat.le_refl _
  intro ⟨x, s, m⟩ hI ih
  dsimp only at hI ⊢
  have hq := fun h0 => qd (a := x) h0 (by omega)
  have hr := fun h0 => rd (a := x) h0 (by omega)
  refine E8 (A2 (A2 (A0 (B5 j5 ?_))))
  refine V9 j6 ?_ ?_ <;> intro h4_1
  ·refine A3 (A1 (wT rfl (B2 (A1 (B4 (A2 (A0 (B5 j5 (rrem j3 ?_ j3 ?_)))))))))
   ·exact Q41
   (have hr1 := hr (by omega); refine D0 j3 ?_ ?_ j3 ?_; omega; omega)
   refine rcv j7 (T9 (es := [[.int _ _]]) j4 kz kb rfl rfl j3 ?_)
   (apply rsg j4; (apply K0 rfl; exact Q0; (first | exact Nat.le_refl _ | omega | (simp; omega)); rfl); (intro s e; cases e); exact (show _ = List.map (fun b => [V.int .u8 b]) [_] from rfl); exact j3)
   refine T7 j5 (rcat j3 ?_ j3 ?_)
   ·exact Q41
   refine raS j5 (A3 (A1 (A0 (B5 j5 (rquo j3 ?_ j3 ?_)))))
   ·exact Q41
   refine D1 j5 (A3 (C0 (E3 ?_)))
   have hq1 := hq (by omega)
   exact I4 (ih (IntKind.i64.wrap (x.tdiv 10), strOf [IntKind.u8.wrap (48 + x.tmod 10)] ++ s, m + 1) ⟨by dsimp only; omega, by dsimp only; rw [ByteArray.size_append, S6]; show (((1 + s.size : Nat)) : Int) + _ ≤ _; omega⟩ (by dsimp only; omega)) (by (repeat first | exact LE.nil _ | refine LE.unk _ _ ?_ | refine LE.eq _ _ _ rfl ?_)) E9 (Nat.le_refl _)
  ·refine A3 (A1 (wF rfl (E5 (E6 (D2 (C5 (A1 (A2 (A0 (T7 j5 (rcat j3 ?_ j3 ?_)))))))))))
   ·exact Q41
   refine raS j5 (A3 (A1 (B1 ?_)))
   first | exact ⟨_, trivial, fin rfl rfl⟩
theorem mt_ex (k : Int) : ∃ s : ByteArray, 0 ≤ k ∧ k ≤ 1152921504606846976 → Pure En 94 [.one (.int .i64 k)] [.one (.str s)] := by
 by_cases h : 0 ≤ k ∧ k ≤ 1152921504606846976
 ·obtain ⟨s, _, h2⟩ := s94 k h; exact ⟨s, fun _ => h2⟩
 ·exact ⟨⟨#[]⟩, fun h' => absurd h' h⟩
noncomputable def Mt (k : Int) : ByteArray := Classical.choose (mt_ex k)
def mWt (y : Int) : Wt := (y, y + 1)
def mSn (y : Int) : Sn := ⟨y, y + 1, ⟨y + 1 + 1, y + 1 + 1 + 1, y + 1 + 1 + 1 + 1, y + 1 + 1 + 1 + 1 + 1⟩⟩
def MW (k : Int) (m : Nat) : List Wt := (List.range m).map fun (j : Nat) => mWt (k + 2 * (j : Int))
def MS (k : Int) (m : Nat) : List Sn := (List.range m).map fun (j : Nat) => mSn (k + 6 * (j : Int))
def mix {α : Type} (A L : List α) (i : Nat) : List α := A.take i ++ L.drop i
theorem mix_len {α : Type} {A L : List α} {i : Nat} (h : A.length = L.length) (hi : i ≤ L.length) : (mix A L i).length = L.length := by
 simp [mix]; omega
theorem mix_get {α : Type} {A L : List α} (d : α) {i j : Nat} (h : A.length = L.length) (hi : i ≤ L.length) : (mix A L i).getD j d = if j < i then A.getD j d else L.getD j d := by
 unfold mix
 rw [List.getD_eq_getElem?_getD]
 split
 ·rename_i hj
  rw [List.getElem?_append_left (by simp; omega), List.getElem?_take_of_lt hj, ← List.getD_eq_getElem?_getD]
 ·rename_i hj
  rw [List.getElem?_append_right (by simp; omega), List.getElem?_drop, List.length_take, ← List.getD_eq_getElem?_getD]
  congr 1; omega
open Go.V
set_option linter.unusedVariables false
set_option linter.unusedSimpArgs false
set_option maxRecDepth 20000
set_option maxHeartbeats 4000000
def kL (k : Int) : List Lk → Int
 | [] => k
 | l :: r => kL (k + 4 + 2 * (l.ws.length : Int)) r
theorem kL_snoc (k : Int) : ∀ (L : List Lk) (l : Lk), kL k (L ++ [l]) = kL k L + 4 + 2 * (l.ws.length : Int)
 | [], l => rfl
 | a :: r, l => kL_snoc (k + 4 + 2 * (a.ws.length : Int)) r l
theorem kL_take {k : Int} {L : List Lk} {i : Nat} (h : i < L.length) : kL k (L.take (i + 1)) = kL k (L.take i) + 4 + 2 * ((L.getD i Lk0).ws.length : Int) := by
 have e3 : L.take (i + 1) = L.take i ++ [L.getD i Lk0] := by rw [List.take_add_one]; simp [h]
 rw [e3, kL_snoc]
noncomputable def mLk (y : Int) (m : Nat) : Lk := ⟨Mt y, y + 1, y + 1 + 1, y + 1 + 1 + 1, MW (y + 1 + 1 + 1 + 1) m⟩
noncomputable def ML (k : Int) (L : List Lk) : List Lk := (List.range L.length).map fun i => mLk (kL k (L.take i)) (L.getD i Lk0).ws.length
theorem ML_len (k : Int) (L : List Lk) : (ML k L).length = L.length := by simp [ML]
theorem ML_get {k : Int} {L : List Lk} {i : Nat} (h : i < L.length) : (ML k L).getD i Lk0 = mLk (kL k (L.take i)) (L.getD i Lk0).ws.length := by simp [ML, List.getD_eq_getElem?_getD, h]
theorem mixL {k : Int} {L : List Lk} {i j : Nat} (hi : i ≤ L.length) : (mix (ML k L) L i).getD j Lk0 = if j < i then (ML k L).getD j Lk0 else L.getD j Lk0 := mix_get Lk0 (ML_len k L) hi
open Go.V
set_option linter.unusedVariables false
set_option linter.unusedSimpArgs false
set_option maxRecDepth 20000
set_option maxHeartbeats 4000000
open Go.V
set_option linter.unusedVariables false
set_option linter.unusedSimpArgs false
set_option maxRecDepth 20000
set_option maxHeartbeats 4000000
theorem o90 (fr : Bool) (L : List Sn) (hL : L.length ≤ 1048576) {h : Heap} {n : Nat} : V.Open En 90 [.sl fr true (L.map Sn.T)] h n (.view (n + 1) 0 L.length) [(n + 1, some ⟨L.map Sn.V, 6, 115⟩)] (n + 2) := by
 refine V.Open.of_wp Try.func90 rfl kb ?_
 refine A2 (A0 (Z4 j5 (A3 (A1 (A2 (A2 (A0 (J7 j5 (rnil (c := false) j6 (A3 (A1 (wF rfl ?_))))))))))))
 refine B2 (A1 (A2 (A0 (T9 (es := []) j4 kz kb rfl rfl j3 (J7 j5 ?_)))))
 (apply rap (s' := 48) rfl rfl; exact Q0; exact j2; rfl; exact j2; exact kz; rfl; exact (lenSnF fr L); (simp only [List.length_map]; omega); (simp only [List.length_map]; omega); exact j3)
 refine P9 j5 (A3 (A1 (B1 ?_)))
 exact F2 rfl (congrArg (V.view (n + 1) 0) (by simp)) (K9 (by
  intro j hj
  simp only [List.map_cons, List.map_nil, List.mem_cons, List.not_mem_nil, or_false] at hj
  rcases hj with rfl <;> (simp (disch := omega) only [↓app0, ↓appC, ↓updS, ↓updN, ↓hpS, ↓hpN]) <;> first | rfl | (exact congrArg (fun z => some (Blk.mk z 6 115)) (rowsSnV fr L))) (fun j hj hn => by
  simp only [List.map_cons, List.map_nil, List.mem_cons, List.not_mem_nil, or_false, not_or] at hn
  (simp (disch := omega) only [↓app0, ↓appC, ↓updS, ↓updN, ↓hpS, ↓hpN]) <;> rfl)) (Nat.le_refl _)
theorem o91 (fr : Bool) (L : List Wt) (hL : L.length ≤ 1048576) {h : Heap} {n : Nat} : V.Open En 91 [.sl fr true (L.map wtT)] h n (.view (n + 1) 0 L.length) [(n + 1, some ⟨L.map wtV, 2, 123⟩)] (n + 2) := by
 refine V.Open.of_wp Try.func91 rfl kb ?_
 refine A2 (A0 (Z4 j5 (A3 (A1 (A2 (A2 (A0 (J7 j5 (rnil (c := false) j6 (A3 (A1 (wF rfl ?_))))))))))))
 refine B2 (A1 (A2 (A0 (T9 (es := []) j4 kz kb rfl rfl j3 (J7 j5 ?_)))))
 (apply rap (s' := 16) rfl rfl; exact Q0; exact j2; rfl; exact j2; exact kz; rfl; exact (lenWtF fr L); (simp only [List.length_map]; omega); (simp only [List.length_map]; omega); exact j3)
 refine P9 j5 (A3 (A1 (B1 ?_)))
 exact F2 rfl (congrArg (V.view (n + 1) 0) (by simp)) (K9 (by
  intro j hj
  simp only [List.map_cons, List.map_nil, List.mem_cons, List.not_mem_nil, or_false] at hj
  rcases hj with rfl <;> (simp (disch := omega) only [↓app0, ↓appC, ↓updS, ↓updN, ↓hpS, ↓hpN]) <;> first | rfl | (exact congrArg (fun z => some (Blk.mk z 2 123)) (rowsWtV fr L))) (fun j hj hn => by
  simp only [List.map_cons, List.map_nil, List.mem_cons, List.not_mem_nil, or_false, not_or] at hn
  (simp (disch := omega) only [↓app0, ↓appC, ↓updS, ↓updN, ↓hpS, ↓hpN]) <;> rfl)) (Nat.le_refl _)
theorem flatSn (L : List Sn) {k : Nat} : ∀ id b, app [(k, some (Blk.mk (L.map Sn.V) 6 115))] (fun _ => none) id = some b → ∀ e ∈ b.es, ∀ x ∈ e, x.flat = true := by
 intro id b hb e he x hx
 have : b = Blk.mk (L.map Sn.V) 6 115 := by
  simp only [app] at hb
  by_cases h : id = k
  ·subst h; rw [upd_same] at hb; exact (Option.some.inj hb).symm
  ·rw [B8 _ _ h] at hb; cases hb
 subst this
 obtain ⟨s, _, rfl⟩ := List.mem_map.1 he
 simp only [Sn.V, List.mem_cons, List.not_mem_nil, or_false] at hx
 rcases hx with rfl | rfl | rfl | rfl | rfl | rfl <;> rfl
theorem rgSnoc (w : Nat → Nat) (L : List Lk) (i : Nat) : (List.range i).map (rwV w L) ++ [rwV w L i] = (List.range (i + 1)).map (rwV w L) := by
 rw [List.range_succ, List.map_append]; rfl
open Go.V
set_option linter.unusedVariables false
set_option linter.unusedSimpArgs false
set_option maxRecDepth 20000
set_option maxHeartbeats 4000000
theorem rgSnoc2 (w : Nat → Nat) (L : List Lk) (i : Nat) : ((List.range i).map (rwV w L)).drop 0 ++ [rwV w L i] = (List.range (i + 1)).map (rwV w L) := rgSnoc w L i
open Go.V
set_option linter.unusedVariables false
set_option linter.unusedSimpArgs false
set_option maxRecDepth 20000
set_option maxHeartbeats 4000000
noncomputable def lAt (t : Tb) (s : ByteArray) : Lk × Int := if s.size > 65536 then (Lk0, 2) else if ¬ t.OK then (Lk0, 1) else if ¬ hit s t.lk then (Lk0, 5) else (t.lk.getD (pos s t.lk) Lk0, 0)
theorem OKw {t : Tb} (h : t.OK) {i : Nat} (hi : i < t.lk.length) : (t.lk.getD i Lk0).ws.length ≤ 4 := (h.2.2.2.2.1 i hi).1.2.2.2.2.1
theorem fix_hit {s : ByteArray} {L : List Lk} (h : hit s L) : fix s L = (pos s L : Int) := if_pos h
theorem fix_no {s : ByteArray} {L : List Lk} (h : ¬ hit s L) : fix s L = -1 := if_neg h
open Go.V
set_option linter.unusedVariables false
set_option linter.unusedSimpArgs false
set_option maxRecDepth 20000
set_option maxHeartbeats 4000000
open Go.V
set_option linter.unusedVariables false
set_option linter.unusedSimpArgs false
set_option maxRecDepth 20000
set_option maxHeartbeats 4000000
open Go.V
set_option linter.unusedVariables false
set_option linter.unusedSimpArgs false
set_option maxRecDepth 20000
set_option maxHeartbeats 4000000
def gone (tm : Int) (l : Lk) : Prop := l.hd ≠ -1 ∧ l.ex ≤ tm
instance (tm : Int) (l : Lk) : Decidable (gone tm l) := by unfold gone; infer_instance
def exN (tm nx : Int) (l : Lk) : Int := if gone tm l ∧ l.ws ≠ [] then nx + 1 else nx
def exF (tm nx : Int) (l : Lk) : Lk := if gone tm l then (match l.ws with | [] => ⟨l.nm, l.tk, -1, 0, []⟩ | w :: r => ⟨l.nm, nx, w.1, tm + w.2, r⟩) else l
def exP (tm : Int) (l : Lk) : List (List V) := if gone tm l then (l.ws.take 1).map wtV else []
def nxL (tm nx : Int) : List Lk → Int
 | [] => nx
 | l :: r => nxL tm (exN tm nx l) r
theorem nxL_snoc (tm nx : Int) : ∀ (L : List Lk) (l : Lk), nxL tm nx (L ++ [l]) = exN tm (nxL tm nx L) l
 | [], l => rfl
 | a :: r, l => nxL_snoc tm (exN tm nx a) r l
theorem K1 {tm nx : Int} {L : List Lk} {i : Nat} (h : i < L.length) : nxL tm nx (L.take (i + 1)) = exN tm (nxL tm nx (L.take i)) (L.getD i Lk0) := by
 have e3 : L.take (i + 1) = L.take i ++ [L.getD i Lk0] := by rw [List.take_add_one]; simp [h]
 rw [e3, nxL_snoc]
def exL (tm nx : Int) (L : List Lk) : List Lk := (List.range L.length).map fun i => exF tm (nxL tm nx (L.take i)) (L.getD i Lk0)
theorem V3 (tm nx : Int) (L : List Lk) : (exL tm nx L).length = L.length := by simp [exL]
theorem N7 {tm nx : Int} {L : List Lk} {i : Nat} (h : i < L.length) : (exL tm nx L).getD i Lk0 = exF tm (nxL tm nx (L.take i)) (L.getD i Lk0) := by simp [exL, List.getD_eq_getElem?_getD, h]
def exT (t : Tb) (now : Int) : Tb := ⟨max t.tm now, nxL (max t.tm now) t.nx t.lk, exL (max t.tm now) t.nx t.lk, t.sn⟩
def rwP (w : Nat → Nat) (P : Nat → List (List V)) (L : List Lk) (i : Nat) : List V := (L.getD i Lk0).V (.view (w i) (P i).length (L.getD i Lk0).ws.length)
def lkP (w : Nat → Nat) (P : Nat → List (List V)) (L : List Lk) : List (List V) := (List.range L.length).map (rwP w P L)
def wsP (P : Nat → List (List V)) (L : List Lk) (i : Nat) : Option Blk := some ⟨P i ++ (L.getD i Lk0).ws.map wtV, 2, 123⟩
def P0 : Nat → List (List V) := fun _ => []
def mixR (A B : Nat → List V) (m i : Nat) : List (List V) := (List.range m).map fun j => if j < i then A j else B j
theorem BH (A B : Nat → List V) (m i : Nat) : (mixR A B m i).length = m := by simp [mixR]
theorem mixR_get {A B : Nat → List V} {m i j : Nat} (h : j < m) : (mixR A B m i)[j]? = some (if j < i then A j else B j) := by simp [mixR, h]
theorem mixR_same {A B : Nat → List V} {m i : Nat} (e : i < m → A i = B i) : mixR A B m i = mixR A B m (i + 1) := by
 unfold mixR
 refine List.map_congr_left fun j hj => ?_
 have := List.mem_range.1 hj
 by_cases h3 : j < i
 ·rw [if_pos h3, if_pos (by omega)]
 ·rw [if_neg h3]
  by_cases h4 : j = i
  ·subst h4; rw [if_pos (by omega), e this]
  ·rw [if_neg (by omega)]
theorem o125 (nm : ByteArray) (tk hd ex tm nx c le : Int) (W Sl Ss : V) (hW : W.cell = true) (ht : 0 ≤ tm ∧ tm ≤ 1000000000) (hn : 0 ≤ nx ∧ nx ≤ 1000000) (hle : 0 ≤ le ∧ le ≤ 1000) {id lb j : Nat} {R : List (List V)} {h : Heap} {n : Nat} (hid : id < n) (hlb : lb < n) (hne : lb ≠ id) (hh : h id = some ⟨[[.int .i64 tm, .int .i64 nx, Sl, Ss]], 4, 35⟩) (hj : j < R.length) (k1 : h lb = some ⟨R, 5, 29⟩) (k2 : R[j]? = some [.str nm, .int .i64 tk, .int .i64 hd, .int .i64 ex, W]) : V.Open En 125 [.ptr id 0 0, .ptr lb j 0, .int .i64 c, .int .i64 le] h n (.tup []) [(lb, some ⟨R.set j [.str nm, .int .i64 nx, .int .i64 c, .int .i64 (tm + le), W], 5, 29⟩), (id, some ⟨[[.int .i64 tm, .int .i64 (nx + 1), Sl, Ss]], 4, 35⟩)] n := by
 refine V.Open.of_wp Try.func125 rfl kb ?_
 refine A2 (B9 [0, 0, 0, 0, 0, 16, 48, 112, 0, 256, 768, 1792, 0, 7936, 4089, 20473, 53241, 118779, 249851, 511995, 1048575, 2097151, 4194303] rfl (by decide +kernel) ?_)
 refine G9 j5 (G9 j5 (G9 j5 (I2 j5 (G9 j5 (H0 (v := .ptr _ _ _) j6 (C9 (off := 1) (s := 1) (r := false) j3 kz j3 ?_))))))
 (apply D5 (v := .int _ _) j2; exact Q0; exact Q9; exact j5)
 refine G9 j5 (H0 (v := .ptr _ _ _) j6 (C9 (off := 0) (s := 1) (r := false) j3 kz j3 ?_))
 (apply D5 (v := .int _ _) j2; exact Q0; exact Q9; exact j5)
 refine I2 j5 (T5 j3 ?_ ?_ j3 ?_)
 ·exact Q4
 ·exact Q4
 refine H0 (v := .ptr _ _ _) j6 (C9 (off := 2) (s := 1) (r := false) j3 kz j3 ?_)
 (apply dst (u := .int _ _) rfl rfl rfl; exact Q0; exact Q9; rfl; rfl; rfl; rfl; exact kb; rfl; rfl; rfl)
 refine H0 (v := .ptr _ _ _) j6 (C9 (off := 1) (s := 1) (r := false) j3 kz j3 ?_)
 (apply dst (u := .int _ _) rfl rfl rfl; exact Q0; exact Q9; rfl; rfl; rfl; rfl; exact kb; rfl; rfl; rfl)
 refine H0 (v := .ptr _ _ _) j6 (C9 (off := 3) (s := 1) (r := false) j3 kz j3 ?_)
 (apply dst (u := .int _ _) rfl rfl rfl; exact Q0; exact Q9; rfl; rfl; rfl; rfl; exact kb; rfl; rfl; rfl)
 refine B3 23 [3, 0, 0, 3, 0, 0, 3, 0, 0, 0, 0, 1, 0, 0, 0, 1, 0, 0, 0, 0, 0, 0, 0] [] j2 (by decide +kernel) trivial ?_
 refine A1 (A0 (D9 j5 (F8 (v := .ptr _ _ _) j6 (C2 (off := 1) (s := 1) (r := false) j3 kz j3 ?_))))
 (apply C6 (v := .int _ _) j2; exact Q0; exact Q9; exact j5)
 refine D0 j3 ?_ ?_ j3 ?_
 ·exact Q4
 ·exact Q4
 refine F8 (v := .ptr _ _ _) j6 (C2 (off := 1) (s := 1) (r := false) j3 kz j3 ?_)
 (apply D6 (u := .int _ _) j3; exact Q0; exact Q9; rfl; rfl; rfl; rfl; exact kb; rfl; exact j2)
 refine A3 ?_
 exact F2 rfl rfl (K9 (by
  intro jx hjx
  simp only [List.map_cons, List.map_nil, List.mem_cons, List.not_mem_nil, or_false] at hjx
  rcases hjx with rfl | rfl <;> (simp (disch := omega) only [↓appC, ↓updN, ↓updS, ↓app0]) <;> first | rfl | (focus (simp only [List.set_set]; done)) | (simp only [List.set_set]; rfl)) (fun jx hjx hn => by
  simp only [List.map_cons, List.map_nil, List.mem_cons, List.not_mem_nil, or_false, not_or] at hn
  (simp (disch := omega) only [↓appC, ↓updN, ↓updS, ↓app0]))) (Nat.le_refl _)
theorem o96a (nm : ByteArray) (tk hd ex tm nx : Int) (wb off : Nat) (Sl Ss : V) {id lb j : Nat} {R : List (List V)} {h : Heap} {n : Nat} (hid : id < n) (hlb : lb < n) (hne : lb ≠ id) (hh : h id = some ⟨[[.int .i64 tm, .int .i64 nx, Sl, Ss]], 4, 35⟩) (hj : j < R.length) (k1 : h lb = some ⟨R, 5, 29⟩) (k2 : R[j]? = some [.str nm, .int .i64 tk, .int .i64 hd, .int .i64 ex, .view wb off 0]) : V.Open En 96 [.ptr id 0 0, .ptr lb j 0] h n (.tup []) [(lb, some ⟨R.set j [.str nm, .int .i64 tk, .int .i64 (-1), .int .i64 0, .view wb off 0], 5, 29⟩), (id, some ⟨[[.int .i64 tm, .int .i64 nx, Sl, Ss]], 4, 35⟩)] (n + 1) := by
 refine V.Open.of_wp Try.func96 rfl kb ?_
 refine A2 (A2 (A0 (D9 j5 (F8 (v := .ptr _ _ _) j6 (C2 (off := 4) (s := 1) (r := false) j3 kz j3 ?_)))))
 (apply C6 (v := .view _ _ _) j2; exact Q0; exact Q9; exact j5)
 refine G7 rfl rfl rfl j3 ?_
 refine H5 j6 ?_ (fun h => absurd (rfl) h)
 intro h0_5
 refine A3 (A1 (wT rfl (A2 (A0 (D9 j5 (D9 j5 (F8 (v := .ptr _ _ _) j6 (C2 (off := 2) (s := 1) (r := false) j3 kz j3 ?_))))))))
 (apply D6 (u := .int _ _) j3; exact Q0; exact Q9; rfl; rfl; rfl; rfl; exact kb; rfl; exact j2)
 refine F8 (v := .ptr _ _ _) j6 (C2 (off := 3) (s := 1) (r := false) j3 kz j3 ?_)
 (apply D6 (u := .int _ _) j3; exact Q0; exact Q9; rfl; rfl; rfl; rfl; exact kb; rfl; exact j2)
 refine A3 (A1 (B1 (B0 ?_)))
 exact F2 rfl rfl (K9 (by
  intro jx hjx
  simp only [List.map_cons, List.map_nil, List.mem_cons, List.not_mem_nil, or_false] at hjx
  rcases hjx with rfl | rfl <;> (simp (disch := omega) only [↓appC, ↓updN, ↓updS, ↓app0]) <;> first | rfl | exact hh | (focus (simp only [List.set_set]; done)) | (simp only [List.set_set]; rfl)) (fun jx hjx hn => by
  simp only [List.map_cons, List.map_nil, List.mem_cons, List.not_mem_nil, or_false, not_or] at hn
  (simp (disch := omega) only [↓appC, ↓updN, ↓updS, ↓app0]))) (Nat.le_succ _)
theorem o96b (nm : ByteArray) (tk hd ex tm nx c le : Int) (wb off m : Nat) (Sl Ss : V) (Wb : List (List V)) (ht : 0 ≤ tm ∧ tm ≤ 1000000000) (hn : 0 ≤ nx ∧ nx ≤ 1000000) (hle : 0 ≤ le ∧ le ≤ 1000) {id lb j : Nat} {R : List (List V)} {h : Heap} {n : Nat} (hid : id < n) (hlb : lb < n) (hwb : wb < n) (hne : lb ≠ id) (hwl : wb ≠ lb) (hwi : wb ≠ id) (hh : h id = some ⟨[[.int .i64 tm, .int .i64 nx, Sl, Ss]], 4, 35⟩) (hj : j < R.length) (k1 : h lb = some ⟨R, 5, 29⟩) (k2 : R[j]? = some [.str nm, .int .i64 tk, .int .i64 hd, .int .i64 ex, .view wb off (m + 1)]) (k3 : h wb = some ⟨Wb, 2, 123⟩) (k4 : Wb[off + 0]? = some [.int .i64 c, .int .i64 le]) (k5 : off + (m + 1) ≤ Wb.length) : V.Open En 96 [.ptr id 0 0, .ptr lb j 0] h n (.tup []) [(lb, some ⟨R.set j [.str nm, .int .i64 nx, .int .i64 c, .int .i64 (tm + le), .view wb (off + 1) m], 5, 29⟩), (id, some ⟨[[.int .i64 tm, .int .i64 (nx + 1), Sl, Ss]], 4, 35⟩)] (n + 1) := by
 refine V.Open.of_wp Try.func96 rfl kb ?_
 refine A2 (A2 (A0 (D9 j5 (F8 (v := .ptr _ _ _) j6 (C2 (off := 4) (s := 1) (r := false) j3 kz j3 ?_)))))
 (apply C6 (v := .view _ _ _) j2; exact Q0; exact Q9; exact j5)
 refine G7 rfl rfl rfl j3 ?_
 refine H5 j6 (fun h => absurd h ((by show ¬ (((m + 1 : Nat) : Int) = 0); omega))) ?_
 intro h0_5
 refine A3 (A1 (wF rfl (B2 (A1 (A2 (A0 (D9 j5 (F8 (v := .ptr _ _ _) j6 (C2 (off := 4) (s := 1) (r := false) j3 kz j3 ?_)))))))))
 (apply C6 (v := .view _ _ _) j2; exact Q0; exact Q9; exact j5)
 (apply U0 j4; exact Q0; rfl; exact Q4; exact Q4; exact j3)
 (apply F7 (vs := [.int _ _, .int _ _]) j2; exact Q0; exact k4; rfl; exact kb; rfl; exact j3)
 refine H3 j6 ?_
 (apply D6 (u := .agg [.int _ _, .int _ _]) j3; exact Q0; exact Q9; rfl; rfl; rfl; rfl; exact kb; rfl; exact j2)
 refine A3 (A1 (A2 (A0 (D9 j5 (D9 j5 (F8 (v := .ptr _ _ _) j6 (C2 (off := 4) (s := 1) (r := false) j3 kz j3 ?_)))))))
 (apply C6 (v := .view _ _ _) j2; exact Q0; exact Q9; exact j5)
 (apply rslv j3; exact Q0; exact j3; exact Q4; exact Q4; exact Q4; exact j3)
 refine F8 (v := .ptr _ _ _) j6 (C2 (off := 4) (s := 1) (r := false) j3 kz j3 ?_)
 (apply D6 (u := .view _ _ _) j3; exact Q0; exact Q9; rfl; rfl; rfl; rfl; exact kb; rfl; exact j2)
 refine A3 (A1 (A0 (D9 j5 (D9 j5 (C2 (off := 0) (s := 1) (r := false) j3 kz j3 ?_)))))
 (apply C6 (v := .int _ _) j2; exact Q0; exact Q9; exact j5)
 refine C2 (off := 1) (s := 1) (r := false) j3 kz j3 ?_
 (apply C6 (v := .int _ _) j2; exact Q0; exact Q9; exact j5)
 refine I7 (o125 nm tk hd ex tm nx c le (.view wb (off + 1) m) Sl Ss rfl ht hn hle (id := id) (lb := lb) (j := j) (R := R.set j [.str nm, .int .i64 tk, .int .i64 hd, .int .i64 ex, .view wb (off + 1) m]) (by omega) (by omega) hne (by exact Q0) (by rw [List.length_set]; exact hj) (by exact Q0) (List.getElem?_set_self hj)) rfl rfl rfl rfl rfl rfl ?_
 refine A3 ?_
 exact F2 rfl rfl (K9 (by
  intro jx hjx
  simp only [List.map_cons, List.map_nil, List.mem_cons, List.not_mem_nil, or_false] at hjx
  rcases hjx with rfl | rfl <;> (simp (disch := omega) only [↓appC, ↓updN, ↓updS, ↓app0]) <;> first | rfl | (focus (simp only [List.set_set]; done)) | (simp only [List.set_set]; rfl)) (fun jx hjx hn => by
  simp only [List.map_cons, List.map_nil, List.mem_cons, List.not_mem_nil, or_false, not_or] at hn
  (simp (disch := omega) only [↓appC, ↓updN, ↓updS, ↓app0]))) (by omega)
open Go.V
set_option linter.unusedVariables false
set_option linter.unusedSimpArgs false
set_option maxRecDepth 20000
set_option maxHeartbeats 4000000
theorem exN_bd {tm nx : Int} {l : Lk} : nx ≤ exN tm nx l ∧ exN tm nx l ≤ nx + 1 := by unfold exN; split <;> omega
end Go.Proofs.Ytknnniaoboaghaa
