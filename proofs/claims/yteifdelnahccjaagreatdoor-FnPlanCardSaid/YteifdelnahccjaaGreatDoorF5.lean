import Derived.Test.YteifdelnahccjaaGreatDoorProg
import Derived.Test.YteifdelnahccjaaGreatDoorF4
namespace Go.Proofs.YteifdelnahccjaaGreatDoor
open Go.V
set_option linter.unusedVariables false
set_option linter.unusedSimpArgs false
set_option maxRecDepth 20000
def roundW : List Int := [1116352408, 1899447441, 3049323471, 3921009573, 961987163, 1508970993, 2453635748, 2870763221, 3624381080, 310598401, 607225278, 1426881987, 1925078388, 2162078206, 2614888103, 3248222580, 3835390401, 4022224774, 264347078, 604807628, 770255983, 1249150122, 1555081692, 1996064986, 2554220882, 2821834349, 2952996808, 3210313671, 3336571891, 3584528711, 113926993, 338241895, 666307205, 773529912, 1294757372, 1396182291, 1695183700, 1986661051, 2177026350, 2456956037, 2730485921, 2820302411, 3259730800, 3345764771, 3516065817, 3600352804, 4094571909, 275423344, 430227734, 506948616, 659060556, 883997877, 958139571, 1322822218, 1537002063, 1747873779, 1955562222, 2024104815, 2227730452, 2361852424, 2428436474, 2756734187, 3204031479, 3329325298]
def tab : List T := roundW.map (.int .u32)
def Gl : Nat → Option (List T)
 | 0 => some tab
 | _ => none
noncomputable def En : Env := ⟨Tryz.prog, Gl⟩
theorem B9 {α β : Type} (f : α → β) (d : α) {L : List α} {k : Nat} (h : k < L.length) : (L.map f)[k]? = some (f (L.getD k d)) := by
 simp [h]
theorem p12 (a b c : Int) : Pure En 64 [.one (.int .i64 a), .one (.int .i64 b), .one (.int .i64 c)] [.one (.bool (decide (b ≤ a ∧ a ≤ c)))] := by
 refine Pure.of_ev (st := []) Tryz.func64 rfl kb ?_
 refine br ?_ ?_ <;> intro h1_2
 ·refine br ?_ ?_ <;> intro h1_6
  ·first | (refine B4 rfl ?_; omega) | (refine B3 rfl ?_; omega)
  ·first | (refine B4 rfl ?_; omega) | (refine B3 rfl ?_; omega)
 ·first | (refine B4 rfl ?_; omega) | (refine B3 rfl ?_; omega)
def letter (a : Int) : Prop := (97 ≤ a ∧ a ≤ 122) ∨ (65 ≤ a ∧ a ≤ 90) ∨ a = 95
instance (a : Int) : Decidable (letter a) := by unfold letter; infer_instance
def digit (a : Int) : Prop := 48 ≤ a ∧ a ≤ 57
instance (a : Int) : Decidable (digit a) := by unfold digit; infer_instance
theorem p49 (a : Int) : Pure En 323 [.one (.int .u8 a)] [.one (.bool (decide (letter a)))] := by
 refine Pure.of_ev (st := []) Tryz.func323 rfl kb ?_
 refine br ?_ ?_ <;> intro h1_1
 ·refine br ?_ ?_ <;> intro h1_4
  ·first | (refine B4 rfl ?_; unfold letter; omega) | (refine B3 rfl ?_; unfold letter; omega)
  ·refine br ?_ ?_ <;> intro h1_8
   ·refine br ?_ ?_ <;> intro h1_11
    ·first | (refine B4 rfl ?_; unfold letter; omega) | (refine B3 rfl ?_; unfold letter; omega)
    ·refine br ?_ ?_ <;> intro h1_16
     ·first | (refine B4 rfl ?_; unfold letter; omega) | (refine B3 rfl ?_; unfold letter; omega)
     ·first | (refine B4 rfl ?_; unfold letter; omega) | (refine B3 rfl ?_; unfold letter; omega)
   ·refine br ?_ ?_ <;> intro h1_16
    ·first | (refine B4 rfl ?_; unfold letter; omega) | (refine B3 rfl ?_; unfold letter; omega)
    ·first | (refine B4 rfl ?_; unfold letter; omega) | (refine B3 rfl ?_; unfold letter; omega)
 ·refine br ?_ ?_ <;> intro h1_8
  ·refine br ?_ ?_ <;> intro h1_11
   ·first | (refine B4 rfl ?_; unfold letter; omega) | (refine B3 rfl ?_; unfold letter; omega)
   ·refine br ?_ ?_ <;> intro h1_16
    ·first | (refine B4 rfl ?_; unfold letter; omega) | (refine B3 rfl ?_; unfold letter; omega)
    ·first | (refine B4 rfl ?_; unfold letter; omega) | (refine B3 rfl ?_; unfold letter; omega)
  ·refine br ?_ ?_ <;> intro h1_16
   ·first | (refine B4 rfl ?_; unfold letter; omega) | (refine B3 rfl ?_; unfold letter; omega)
   ·first | (refine B4 rfl ?_; unfold letter; omega) | (refine B3 rfl ?_; unfold letter; omega)
def word (s : ByteArray) : Prop := 1 ≤ s.size ∧ s.size ≤ 40 ∧ letter (bt s 0) ∧ ∀ j, j < s.size → letter (bt s j) ∨ digit (bt s j)
noncomputable instance (s : ByteArray) : Decidable (word s) := Classical.propDecidable _
theorem p47 (s : ByteArray) : Pure En 317 [.one (.str s)] [.one (.bool (decide (word s)))] := by
 refine Pure.of_ev (st := []) Tryz.func317 rfl kb ?_
 refine br ?_ ?_ <;> intro h1_2
 ·first
   | exact B4 rfl ⟨by omega, by omega, by assumption, fun j hj => hI.2 j (by omega)⟩
   | (refine B3 rfl fun hw => ?_; obtain ⟨w1, w2, w3, w4⟩ := hw; first | omega | exact h1_11 w3 | (have := (w4 i (by omega)).resolve_left h6_3; unfold digit at this; unfold bt at *; omega) | (have := (w4 i (by omega)).resolve_left h6_3; unfold digit at this; first | exact absurd this.1 (Int.not_le.mpr h6_9) | exact absurd this.2 (Int.not_le.mpr h6_14)))
 ·refine br ?_ ?_ <;> intro h1_6
  ·first
    | exact B4 rfl ⟨by omega, by omega, by assumption, fun j hj => hI.2 j (by omega)⟩
    | (refine B3 rfl fun hw => ?_; obtain ⟨w1, w2, w3, w4⟩ := hw; first | omega | exact h1_11 w3 | (have := (w4 i (by omega)).resolve_left h6_3; unfold digit at this; unfold bt at *; omega) | (have := (w4 i (by omega)).resolve_left h6_3; unfold digit at this; first | exact absurd this.1 (Int.not_le.mpr h6_9) | exact absurd this.2 (Int.not_le.mpr h6_14)))
  ·refine lit 0 rfl (C2 ?_)
   refine B6 (p49 _) rfl j2 ?_ ?_ <;> intro h1_11
   ·refine X2 (fun (i : Nat) => [.str s, .unk, .unk, .unk, .unk, .unk, .unk, .unk, .unk, .unk, .unk, .unk, .unk, .unk, .unk, .unk, .unk, .unk, .unk, .int .i64 s.size, .int .i64 i]) (fun (i : Nat) => i ≤ s.size ∧ ∀ j, j < i → letter (bt s j) ∨ digit (bt s j)) (fun (i : Nat) => s.size - i) 0 ?_ ?_ ?_
    ·exact ⟨by omega, S9⟩
    ·(repeat first | exact LE.nil _ | refine LE.unk _ _ ?_ | refine LE.eq _ _ _ rfl ?_)
    intro i hI ih
    refine A7 (st := []) ?_
    refine br ?_ ?_ <;> intro h4_0
    ·refine C2 ?_
     refine B6 (p49 _) rfl j2 ?_ ?_ <;> intro h6_3
     ·refine B7 ?_
      exact wlN (ih (i + 1) ⟨by omega, U5 hI.2 (by first | exact .inl h6_3 | exact .inr ⟨Int.not_lt.mp h6_9, Int.not_lt.mp h6_14⟩)⟩ (by omega)) (by (repeat first | exact LE.nil _ | refine LE.unk _ _ ?_ | refine LE.eq _ _ _ rfl ?_))
     ·refine C2 ?_
      refine br ?_ ?_ <;> intro h6_9
      ·first
        | exact B4 rfl ⟨by omega, by omega, by assumption, fun j hj => hI.2 j (by omega)⟩
        | (refine B3 rfl fun hw => ?_; obtain ⟨w1, w2, w3, w4⟩ := hw; first | omega | exact h1_11 w3 | (have := (w4 i (by omega)).resolve_left h6_3; unfold digit at this; unfold bt at *; omega) | (have := (w4 i (by omega)).resolve_left h6_3; unfold digit at this; first | exact absurd this.1 (Int.not_le.mpr h6_9) | exact absurd this.2 (Int.not_le.mpr h6_14)))
      ·refine C2 ?_
       refine br ?_ ?_ <;> intro h6_14
       ·first
         | exact B4 rfl ⟨by omega, by omega, by assumption, fun j hj => hI.2 j (by omega)⟩
         | (refine B3 rfl fun hw => ?_; obtain ⟨w1, w2, w3, w4⟩ := hw; first | omega | exact h1_11 w3 | (have := (w4 i (by omega)).resolve_left h6_3; unfold digit at this; unfold bt at *; omega) | (have := (w4 i (by omega)).resolve_left h6_3; unfold digit at this; first | exact absurd this.1 (Int.not_le.mpr h6_9) | exact absurd this.2 (Int.not_le.mpr h6_14)))
       ·refine B7 ?_
        exact wlN (ih (i + 1) ⟨by omega, U5 hI.2 (by first | exact .inl h6_3 | exact .inr ⟨Int.not_lt.mp h6_9, Int.not_lt.mp h6_14⟩)⟩ (by omega)) (by (repeat first | exact LE.nil _ | refine LE.unk _ _ ?_ | refine LE.eq _ _ _ rfl ?_))
    ·first
      | exact B4 rfl ⟨by omega, by omega, by assumption, fun j hj => hI.2 j (by omega)⟩
      | (refine B3 rfl fun hw => ?_; obtain ⟨w1, w2, w3, w4⟩ := hw; first | omega | exact h1_11 w3 | (have := (w4 i (by omega)).resolve_left h6_3; unfold digit at this; unfold bt at *; omega) | (have := (w4 i (by omega)).resolve_left h6_3; unfold digit at this; first | exact absurd this.1 (Int.not_le.mpr h6_9) | exact absurd this.2 (Int.not_le.mpr h6_14)))
   ·first
     | exact B4 rfl ⟨by omega, by omega, by assumption, fun j hj => hI.2 j (by omega)⟩
     | (refine B3 rfl fun hw => ?_; obtain ⟨w1, w2, w3, w4⟩ := hw; first | omega | exact h1_11 w3 | (have := (w4 i (by omega)).resolve_left h6_3; unfold digit at this; unfold bt at *; omega) | (have := (w4 i (by omega)).resolve_left h6_3; unfold digit at this; first | exact absurd this.1 (Int.not_le.mpr h6_9) | exact absurd this.2 (Int.not_le.mpr h6_14)))
def opName (s : ByteArray) : Prop := s.size ≤ 12 ∧ word s
noncomputable instance (s : ByteArray) : Decidable (opName s) := Classical.propDecidable _
theorem p44 (s : ByteArray) : Pure En 303 [.one (.str s)] [.one (.bool (decide (opName s)))] := by
 refine Pure.of_ev (st := []) Tryz.func303 rfl kb ?_
 refine br ?_ ?_ <;> intro h1_2
 ·refine B6 (p47 _) rfl j2 ?_ ?_ <;> intro h1_5
  ·first | exact B4 rfl ⟨by omega, by assumption⟩ | (refine B3 rfl fun hw => ?_; obtain ⟨w1, w2⟩ := hw; first | omega | exact h1_5 w2)
  ·first | exact B4 rfl ⟨by omega, by assumption⟩ | (refine B3 rfl fun hw => ?_; obtain ⟨w1, w2⟩ := hw; first | omega | exact h1_5 w2)
 ·first | exact B4 rfl ⟨by omega, by assumption⟩ | (refine B3 rfl fun hw => ?_; obtain ⟨w1, w2⟩ := hw; first | omega | exact h1_5 w2)
structure Rq where
 cl : Int
 st : Int
 kd : Int
 le : Int
 nm : ByteArray
def Rq.T (r : Rq) : List T := [.int .i64 r.cl, .int .i64 r.st, .int .i64 r.kd, .int .i64 r.le, .str r.nm]
def Rq.OK (r : Rq) : Prop := (0 ≤ r.cl ∧ r.cl ≤ 255) ∧ (1 ≤ r.st ∧ r.st ≤ 65535) ∧ (1 ≤ r.kd ∧ r.kd ≤ 4) ∧ (0 ≤ r.le ∧ r.le ≤ 1000) ∧ opName r.nm ∧ (r.le > 0 ↔ (r.kd = 1 ∨ r.kd = 3))
noncomputable instance (r : Rq) : Decidable r.OK := Classical.propDecidable _
theorem p35 (r : Rq) : Pure En 263 [.agg r.T] [.one (.bool (decide r.OK))] := by
 refine Pure.of_ev (st := []) Tryz.func263 rfl kb ?_
 refine A4 ?_
 refine br ?_ ?_ <;> intro h2_2
 ·refine A4 ?_
  refine B6 (p12 _ _ _) rfl j2 ?_ ?_ <;> intro h4_2
  ·refine A4 ?_
   refine B6 (p12 _ _ _) rfl j2 ?_ ?_ <;> intro h4_6
   ·refine A4 ?_
    refine B6 (p12 _ _ _) rfl j2 ?_ ?_ <;> intro h4_11
    ·refine A4 ?_
     refine B6 (p12 _ _ _) rfl j2 ?_ ?_ <;> intro h4_18
     ·refine A4 ?_
      refine B6 (p44 _) rfl j2 ?_ ?_ <;> intro h4_23
      ·first
        | exact B4 rfl ⟨by omega, by omega, by omega, by omega, by assumption, by omega⟩
        | (refine B3 rfl fun hw => ?_; obtain ⟨w1, w2, w3, w4, w5, w6⟩ := hw; first | omega | exact h4_23 w5)
      ·first
        | exact B4 rfl ⟨by omega, by omega, by omega, by omega, by assumption, by omega⟩
        | (refine B3 rfl fun hw => ?_; obtain ⟨w1, w2, w3, w4, w5, w6⟩ := hw; first | omega | exact h4_23 w5)
     ·first
       | exact B4 rfl ⟨by omega, by omega, by omega, by omega, by assumption, by omega⟩
       | (refine B3 rfl fun hw => ?_; obtain ⟨w1, w2, w3, w4, w5, w6⟩ := hw; first | omega | exact h4_23 w5)
    ·first
      | exact B4 rfl ⟨by omega, by omega, by omega, by omega, by assumption, by omega⟩
      | (refine B3 rfl fun hw => ?_; obtain ⟨w1, w2, w3, w4, w5, w6⟩ := hw; first | omega | exact h4_23 w5)
   ·first
     | exact B4 rfl ⟨by omega, by omega, by omega, by omega, by assumption, by omega⟩
     | (refine B3 rfl fun hw => ?_; obtain ⟨w1, w2, w3, w4, w5, w6⟩ := hw; first | omega | exact h4_23 w5)
  ·first
    | exact B4 rfl ⟨by omega, by omega, by omega, by omega, by assumption, by omega⟩
    | (refine B3 rfl fun hw => ?_; obtain ⟨w1, w2, w3, w4, w5, w6⟩ := hw; first | omega | exact h4_23 w5)
 ·refine A4 ?_
  refine br ?_ ?_ <;> intro h2_6
  ·refine A4 ?_
   refine B6 (p12 _ _ _) rfl j2 ?_ ?_ <;> intro h4_2
   ·refine A4 ?_
    refine B6 (p12 _ _ _) rfl j2 ?_ ?_ <;> intro h4_6
    ·refine A4 ?_
     refine B6 (p12 _ _ _) rfl j2 ?_ ?_ <;> intro h4_11
     ·refine A4 ?_
      refine B6 (p12 _ _ _) rfl j2 ?_ ?_ <;> intro h4_18
      ·refine A4 ?_
       refine B6 (p44 _) rfl j2 ?_ ?_ <;> intro h4_23
       ·first
         | exact B4 rfl ⟨by omega, by omega, by omega, by omega, by assumption, by omega⟩
         | (refine B3 rfl fun hw => ?_; obtain ⟨w1, w2, w3, w4, w5, w6⟩ := hw; first | omega | exact h4_23 w5)
       ·first
         | exact B4 rfl ⟨by omega, by omega, by omega, by omega, by assumption, by omega⟩
         | (refine B3 rfl fun hw => ?_; obtain ⟨w1, w2, w3, w4, w5, w6⟩ := hw; first | omega | exact h4_23 w5)
      ·first
        | exact B4 rfl ⟨by omega, by omega, by omega, by omega, by assumption, by omega⟩
        | (refine B3 rfl fun hw => ?_; obtain ⟨w1, w2, w3, w4, w5, w6⟩ := hw; first | omega | exact h4_23 w5)
     ·first
       | exact B4 rfl ⟨by omega, by omega, by omega, by omega, by assumption, by omega⟩
       | (refine B3 rfl fun hw => ?_; obtain ⟨w1, w2, w3, w4, w5, w6⟩ := hw; first | omega | exact h4_23 w5)
    ·first
      | exact B4 rfl ⟨by omega, by omega, by omega, by omega, by assumption, by omega⟩
      | (refine B3 rfl fun hw => ?_; obtain ⟨w1, w2, w3, w4, w5, w6⟩ := hw; first | omega | exact h4_23 w5)
   ·first
     | exact B4 rfl ⟨by omega, by omega, by omega, by omega, by assumption, by omega⟩
     | (refine B3 rfl fun hw => ?_; obtain ⟨w1, w2, w3, w4, w5, w6⟩ := hw; first | omega | exact h4_23 w5)
  ·refine A4 ?_
   refine B6 (p12 _ _ _) rfl j2 ?_ ?_ <;> intro h4_2
   ·refine A4 ?_
    refine B6 (p12 _ _ _) rfl j2 ?_ ?_ <;> intro h4_6
    ·refine A4 ?_
     refine B6 (p12 _ _ _) rfl j2 ?_ ?_ <;> intro h4_11
     ·refine A4 ?_
      refine B6 (p12 _ _ _) rfl j2 ?_ ?_ <;> intro h4_18
      ·refine A4 ?_
       refine B6 (p44 _) rfl j2 ?_ ?_ <;> intro h4_23
       ·first
         | exact B4 rfl ⟨by omega, by omega, by omega, by omega, by assumption, by omega⟩
         | (refine B3 rfl fun hw => ?_; obtain ⟨w1, w2, w3, w4, w5, w6⟩ := hw; first | omega | exact h4_23 w5)
       ·first
         | exact B4 rfl ⟨by omega, by omega, by omega, by omega, by assumption, by omega⟩
         | (refine B3 rfl fun hw => ?_; obtain ⟨w1, w2, w3, w4, w5, w6⟩ := hw; first | omega | exact h4_23 w5)
      ·first
        | exact B4 rfl ⟨by omega, by omega, by omega, by omega, by assumption, by omega⟩
        | (refine B3 rfl fun hw => ?_; obtain ⟨w1, w2, w3, w4, w5, w6⟩ := hw; first | omega | exact h4_23 w5)
     ·first
       | exact B4 rfl ⟨by omega, by omega, by omega, by omega, by assumption, by omega⟩
       | (refine B3 rfl fun hw => ?_; obtain ⟨w1, w2, w3, w4, w5, w6⟩ := hw; first | omega | exact h4_23 w5)
    ·first
      | exact B4 rfl ⟨by omega, by omega, by omega, by omega, by assumption, by omega⟩
      | (refine B3 rfl fun hw => ?_; obtain ⟨w1, w2, w3, w4, w5, w6⟩ := hw; first | omega | exact h4_23 w5)
   ·first
     | exact B4 rfl ⟨by omega, by omega, by omega, by omega, by assumption, by omega⟩
     | (refine B3 rfl fun hw => ?_; obtain ⟨w1, w2, w3, w4, w5, w6⟩ := hw; first | omega | exact h4_23 w5)
def bV (b : Int) : List V := [.int .u8 b]
theorem takeAll {l : List Int} {m : Nat} (h : l.length = m) : (((l.map bV).drop 0).take m) = l.map fun b => [.int .u8 b] := by
 rw [List.drop_zero, List.take_of_length_le (by simp; omega)]; rfl
theorem C3 (l : List Int) : (strOw l).size = l.length := by
 simp [strOw, ByteArray.size]
theorem setMap {l : List Int} {i : Nat} {x : Int} : (l.map bV).set i (bV x) = (l.set i x).map bV := by
 rw [List.map_set]
open Go.V
set_option linter.unusedVariables false
set_option linter.unusedSimpArgs false
set_option maxRecDepth 20000
set_option maxHeartbeats 4000000
theorem W5 (op : BinOp) (a b : Int) : 0 ≤ bits op .u64 a b := by unfold bits; exact Int.natCast_nonneg _
theorem J6 (a : Int) : 0 ≤ IntKind.u64.wrap a := by
 have : IntKind.u64.wrap a = a % (2 ^ 64 : Int) := rfl
 rw [this]; exact Int.emod_nonneg _ (by decide)
theorem p51 (x k : Int) : ∃ y : Int, True ∧ Pure En 314 [.one (.int .u32 x), .one (.int .i64 k)] [.one (.int .u32 y)] := by
 refine Pure.of_evX (st := []) Tryz.func314 rfl kb ?_
 refine sd (by (first | exact W5 _ _ _ | exact J6 _)) ?_
 refine sd (by (first | exact W5 _ _ _ | exact J6 _)) ?_
 exact ⟨_, trivial, E4 rfl rfl⟩
theorem p50 (x k : Int) : ∃ y : Int, True ∧ Pure En 298 [.one (.int .u32 x), .one (.int .i64 k)] [.one (.int .u32 y)] := by
 refine Pure.of_evX (st := []) Tryz.func298 rfl kb ?_
 refine eclX (p51 _ _) rfl j2 ?_
 rintro x1_3 h1_3
 try dsimp only at h1_3
 exact ⟨_, trivial, E4 rfl rfl⟩
noncomputable def rot (x k : Int) : Int := Classical.choose (p50 x k)
def wV (x : Int) : V := .int .u32 x
theorem splW (L : List Int) (i : Nat) (x : Int) (h : i < L.length) : splice (L.map wV) i [wV x] = (L.set i x).map wV := by
 unfold splice
 rw [List.map_set, List.set_eq_take_append_cons_drop]
 simp [h]
theorem getW {L : List Int} {i : Nat} (h : i < L.length) : (L.map wV)[i]? = some (wV (L.getD i 0)) := B9 wV 0 h
structure W8 where
 a : Int
 b : Int
 c : Int
 d : Int
 e : Int
 f : Int
 g : Int
 h : Int
def W8.T (r : W8) : List T := [.int .u32 r.a, .int .u32 r.b, .int .u32 r.c, .int .u32 r.d, .int .u32 r.e, .int .u32 r.f, .int .u32 r.g, .int .u32 r.h]
def W8.V (r : W8) : List V := [wV r.a, wV r.b, wV r.c, wV r.d, wV r.e, wV r.f, wV r.g, wV r.h]
def bT (b : Int) : List T := [.int .u8 b]
theorem tabGet {k : Nat} (h : k < 64) : (tab.drop k)[0]? = some (.int .u32 (roundW.getD k 0)) := by
 rw [List.getElem?_drop, Nat.add_zero]
 exact B9 (T.int .u32) 0 (by show k < roundW.length; exact h)
theorem len8 {L : List Int} (h : L.length = 8) : ∃ a b c d e f g i, L = [a, b, c, d, e, f, g, i] := by
 match L, h with
 | [a, b, c, d, e, f, g, i], _ => exact ⟨a, b, c, d, e, f, g, i, rfl⟩
open Go.V
set_option linter.unusedVariables false
set_option linter.unusedSimpArgs false
set_option maxRecDepth 20000
set_option maxHeartbeats 4000000
def byt (s : ByteArray) : List Int := s.data.toList.map fun b => (b.toNat : Int)
theorem C4 (s : ByteArray) : (byt s).length = s.size := by unfold byt; rw [List.length_map]; rfl
theorem tm64 (a : Nat) : (a : Int).tmod 64 = ((a % 64 : Nat) : Int) := rfl
theorem bytRows (s : ByteArray) : (s.data.toList.map fun b => [V.int .u8 (b.toNat : Int)]) = (byt s).map bV := by simp [byt, bV]
theorem J7 (s : ByteArray) : (s.data.toList.map fun b => [V.int .u8 (b.toNat : Int)]).length = s.size := by rw [bytRows, List.length_map, C4]
theorem snapCut {h : Heap} {ids : List Nat} {r : Bool} {id off m : Nat} {b : Blk} (L : List Int) (hid : id ∈ ids) (hb : h id = some b) (he : b.es = L.map bV) (hl : off + m ≤ L.length) :
  Snap h ids r (.view id off m) (.sl true (((L.drop off).take m).map bT)) := by
 have e : ((b.es.drop off).take m) = ((L.drop off).take m).map bV := by rw [he, List.map_take, List.map_drop]
 refine .view id off m b _ hid hb (by rw [he, List.length_map]; exact hl) (by simp; omega) (fun i x y h1 h2 => ?_) (fun i j x y h1 h2 => ?_)
 ·rw [e] at h1
  rw [List.getElem?_map] at h1 h2
  cases hz : ((L.drop off).take m)[i]? with
  | none => simp [hz] at h1
  | some z =>
   simp only [hz, Option.map_some, Option.some.injEq] at h1 h2
   subst h1; subst h2; rfl
 ·rw [e] at h1
  unfold get2 at h1 h2
  rw [List.getElem?_map] at h1 h2
  cases hz : ((L.drop off).take m)[i]? with
  | none => simp [hz] at h1
  | some z =>
   simp only [hz, Option.map_some, Option.bind_some] at h1 h2
   match j with
   | 0 => simp [bV, bT] at h1 h2; subst h1; subst h2; exact .int _ _
   | j + 1 => simp [bV] at h1
open Go.V
set_option linter.unusedVariables false
set_option linter.unusedSimpArgs false
set_option maxRecDepth 20000
set_option maxHeartbeats 4000000
def ad (a b : Int) : Int := IntKind.u32.wrap (a + b)
def xo (a b : Int) : Int := bits .xor .u32 a b
def anb (a b : Int) : Int := bits .and .u32 a b
def orb (a b : Int) : Int := bits .or .u32 a b
def sr (x k : Int) : Int := x.fdiv (2 ^ (min k.toNat IntKind.u32.bits))
def sl (x k : Int) : Int := IntKind.u32.wrap (x * 2 ^ (min k.toNat IntKind.u32.bits))
def rt (x k : Int) : Int := orb (sl x (32 - k)) (sr x k)
def rtOK (k : Int) : Prop := bits .and .u64 (IntKind.u64.wrap (IntKind.i64.wrap (0 - k))) 31 = 32 - k ∧ IntKind.u64.wrap (32 - (32 - k)) = k
instance (k : Int) : Decidable (rtOK k) := by unfold rtOK; infer_instance
theorem e51 (x k : Int) (hk : rtOK k) : Pure En 314 [.one (.int .u32 x), .one (.int .i64 (IntKind.i64.wrap (0 - k)))] [.one (.int .u32 (rt x k))] := by
 refine Pure.of_ev (st := []) Tryz.func314 rfl kb ?_
 refine sd (by (first | exact W5 _ _ _ | exact J6 _)) ?_
 refine sd (by (first | exact W5 _ _ _ | exact J6 _)) ?_
 exact E4 rfl (by unfold rt; rw [hk.1, hk.2]; rfl)
theorem e50 (x k : Int) (hk : rtOK k) : Pure En 298 [.one (.int .u32 x), .one (.int .i64 k)] [.one (.int .u32 (rt x k))] := by
 refine Pure.of_ev (st := []) Tryz.func298 rfl kb ?_
 refine C8 (e51 x k hk) rfl rfl rfl ?_
 exact E4 rfl rfl
def wbB (B : List Int) (i : Nat) : Int :=
 orb (orb (orb (sl (IntKind.u32.wrap (B.getD (4 * (i : Int)).toNat 0)) 24) (sl (IntKind.u32.wrap (B.getD (4 * (i : Int) + 1).toNat 0)) 16)) (sl (IntKind.u32.wrap (B.getD (4 * (i : Int) + 2).toNat 0)) 8)) (IntKind.u32.wrap (B.getD (4 * (i : Int) + 3).toNat 0))
def W0 (B : List Int) : Nat → List Int
 | 0 => List.replicate 64 0
 | i + 1 => (W0 B i).set i (wbB B i)
theorem G5 (B : List Int) : ∀ i, (W0 B i).length = 64
 | 0 => by simp [W0]
 | i + 1 => by unfold W0; rw [List.length_set]; exact G5 B i
def wNew (L : List Int) (i : Nat) : Int :=
 let x := L.getD ((i : Int) - 15).toNat 0
 let y := L.getD ((i : Int) - 2).toNat 0
 ad (ad (ad (L.getD ((i : Int) - 16).toNat 0) (xo (xo (rt x 7) (rt x 18)) (sr x 3))) (L.getD ((i : Int) - 7).toNat 0)) (xo (xo (rt y 17) (rt y 19)) (sr y 10))
def W1 (L : List Int) : Nat → List Int
 | 0 => L
 | j + 1 => (W1 L j).set (16 + j) (wNew (W1 L j) (16 + j))
theorem J1 (L : List Int) (h : L.length = 64) : ∀ j, (W1 L j).length = 64
 | 0 => h
 | j + 1 => by unfold W1; rw [List.length_set]; exact J1 L h j
def rnd (r : W8) (k w : Int) : W8 :=
 let p := ad (ad (ad (ad r.h (xo (xo (rt r.e 6) (rt r.e 11)) (rt r.e 25))) (orb (anb r.e r.f) (anb (xo (if IntKind.u32.signed = true then -1 else IntKind.u32.max) r.e) r.g))) k) w
 let q := ad (xo (xo (rt r.a 2) (rt r.a 13)) (rt r.a 22)) (xo (xo (anb r.a r.b) (anb r.a r.c)) (anb r.b r.c))
 ⟨ad p q, r.a, r.b, r.c, ad r.d p, r.e, r.f, r.g⟩
def rnds (L : List Int) (r : W8) : Nat → W8
 | 0 => r
 | i + 1 => rnd (rnds L r i) (roundW.getD i 0) (L.getD i 0)
def W8.L (r : W8) : List Int := [r.a, r.b, r.c, r.d, r.e, r.f, r.g, r.h]
def addW (q r : W8) : Nat → List Int
 | 0 => q.L
 | i + 1 => (addW q r i).set i (ad ((addW q r i).getD i 0) (r.L.getD i 0))
theorem K7 (q r : W8) : ∀ i, (addW q r i).length = 8
 | 0 => rfl
 | i + 1 => by unfold addW; rw [List.length_set]; exact K7 q r i
theorem W0_zero (B : List Int) : W0 B 0 = List.replicate 64 0 := rfl
theorem W0_succ (B : List Int) (i : Nat) : W0 B (i + 1) = (W0 B i).set i (wbB B i) := rfl
theorem W1_zero (L : List Int) : W1 L 0 = L := rfl
theorem W1_succ (L : List Int) (j : Nat) : W1 L (j + 1) = (W1 L j).set (16 + j) (wNew (W1 L j) (16 + j)) := rfl
theorem rnds_zero (L : List Int) (r : W8) : rnds L r 0 = r := rfl
theorem rnds_succ (L : List Int) (r : W8) (i : Nat) : rnds L r (i + 1) = rnd (rnds L r i) (roundW.getD i 0) (L.getD i 0) := rfl
theorem addW_zero (q r : W8) : addW q r 0 = q.L := rfl
theorem addW_succ (q r : W8) (i : Nat) : addW q r (i + 1) = (addW q r i).set i (ad ((addW q r i).getD i 0) (r.L.getD i 0)) := rfl
def sched (B : List Int) : List Int := W1 (W0 B 16) 48
def blk8 (q : W8) (B : List Int) : W8 :=
 let r := rnds (sched B) q 64
 ⟨ad q.a r.a, ad q.b r.b, ad q.c r.c, ad q.d r.d, ad q.e r.e, ad q.f r.f, ad q.g r.g, ad q.h r.h⟩
theorem addW_end (q r : W8) : addW q r 8 = [ad q.a r.a, ad q.b r.b, ad q.c r.c, ad q.d r.d, ad q.e r.e, ad q.f r.f, ad q.g r.g, ad q.h r.h] := rfl
attribute [irreducible] W0 W1 rnds addW
theorem e48 (q : W8) (nn : Bool) (B : List Int) (hB : B.length = 64) : Pure En 251 [.agg q.T, .one (.sl nn (B.map bT))] [.agg (blk8 q B).T] := by
 refine Pure.of_ev (st := []) Tryz.func251 rfl kb ?_
 refine A9 (fun (i : Nat) => [.unk, .sl false nn (B.map bT), .ptr 0 0 0, .unk, .ptr 1 0 0, .ptr 2 0 0, .unk, .unk, .unk, .unk, .unk, .unk, .unk, .unk, .unk, .unk, .int .i64 i]) (fun (i : Nat) => hp [(0, ⟨[q.V], 8, 291⟩), (1, ⟨[List.replicate 8 (wV 0)], 8, 291⟩), (2, ⟨[(W0 B i).map wV], 64, 324⟩)]) (fun (i : Nat) => 3) (fun (i : Nat) => i ≤ 16) (fun (i : Nat) => 16 - i) 0 ?_ ?_ ?_ ?_ ?_
 ·exact Nat.zero_le _
 ·(repeat first | exact LE.nil _ | refine LE.unk _ _ ?_ | refine LE.eq _ _ _ rfl ?_)
 ·(repeat first | exact B8 | (refine C0 ?_ ?_; (first | exact Q0 | ((simp (disch := omega) only [app, upd, hp, if_pos, if_neg, Nat.zero_add, Nat.mul_one, Int.toNat_natCast]); first | (rw [W0_zero]; rfl) | (rw [W0_succ]; rfl)))))
 ·exact Nat.le_refl _
 intro i hI ih
 have hL0 := G5 B i
 refine A7 (st := []) ?_
 refine br ?_ ?_ <;> intro h3_0
 ·refine B7 ?_
  (refine C2 (D7 (by first | rfl | assumption | (exact B9 bT 0 (by omega))) rfl ?_))
  refine C2 ?_
  refine B7 ?_
  refine B7 ?_
  (refine C2 (D7 (by first | rfl | assumption | (exact B9 bT 0 (by omega))) rfl ?_))
  refine C2 ?_
  refine B7 ?_
  refine B7 ?_
  (refine C2 (D7 (by first | rfl | assumption | (exact B9 bT 0 (by omega))) rfl ?_))
  refine C2 ?_
  refine B7 ?_
  refine B7 ?_
  (refine C2 (D7 (by first | rfl | assumption | (exact B9 bT 0 (by omega))) rfl ?_))
  (refine F4 (c := 64) (s := 1) j4 ?_ ?_ ?_; exact E8; exact E8)
  (refine est j3 rfl rfl j4 ?_ (splW _ _ _ ?_) ?_; (show _ + 1 ≤ _; rw [List.length_map]; omega); omega)
  refine F6 ?_
  refine B7 ?_
  exact C6 (ih (i + 1) (by omega) (by omega)) (by (repeat first | exact LE.nil _ | refine LE.unk _ _ ?_ | refine LE.eq _ _ _ rfl ?_)) (by (repeat first | exact B8 | (refine C0 ?_ ?_; (first | exact Q0 | ((simp (disch := omega) only [app, upd, hp, if_pos, if_neg, Nat.zero_add, Nat.mul_one, Int.toNat_natCast]); first | (rw [W0_zero]; rfl) | (rw [W0_succ]; rfl)))))) (Nat.le_refl _)
 ·refine A9 (fun (j : Nat) => [.unk, .unk, .ptr 0 0 0, .unk, .ptr 1 0 0, .ptr 2 0 0, .unk, .int .i64 ((16 + j : Nat) : Int)]) (fun (j : Nat) => hp [(0, ⟨[q.V], 8, 291⟩), (1, ⟨[List.replicate 8 (wV 0)], 8, 291⟩), (2, ⟨[(W1 (W0 B 16) j).map wV], 64, 324⟩)]) (fun (j : Nat) => 3) (fun (j : Nat) => j ≤ 48) (fun (j : Nat) => 48 - j) 0 ?_ ?_ ?_ ?_ ?_
  ·exact Nat.zero_le _
  ·(repeat first | exact LE.nil _ | refine LE.unk _ _ ?_ | refine LE.eq _ _ _ rfl ?_)
  ·(repeat first | exact B8 | (refine C0 ?_ ?_; (first | exact Q0 | ((simp (disch := omega) only [app, upd, hp, if_pos, if_neg, Nat.zero_add, Nat.mul_one, Int.toNat_natCast]); first | (rw [W1_zero, show (16 : Nat) = i by omega]; rfl) | (rw [W1_succ]; rfl)))))
  ·exact Nat.le_refl _
  intro j hI ih
  have hL1 := J1 (W0 B 16) (G5 B 16) j
  refine A7 (st := []) ?_
  refine br ?_ ?_ <;> intro h8_1
  ·refine B7 ?_
   (refine F4 (c := 64) (s := 1) j4 ?_ ?_ ?_; exact E8; exact E8)
   refine A4 ?_ (by exact Q0) (by rfl) (by exact getW (by omega))
   refine B7 ?_
   (refine F4 (c := 64) (s := 1) j4 ?_ ?_ ?_; exact E8; exact E8)
   refine A4 ?_ (by exact Q0) (by rfl) (by exact getW (by omega))
   refine B7 ?_
   (refine F4 (c := 64) (s := 1) j4 ?_ ?_ ?_; exact E8; exact E8)
   refine A4 ?_ (by exact Q0) (by rfl) (by exact getW (by omega))
   refine C8 (e50 _ _ (by decide)) rfl rfl rfl ?_
   refine C8 (e50 _ _ (by decide)) rfl rfl rfl ?_
   refine C2 ?_
   refine B7 ?_
   (refine F4 (c := 64) (s := 1) j4 ?_ ?_ ?_; exact E8; exact E8)
   refine A4 ?_ (by exact Q0) (by rfl) (by exact getW (by omega))
   refine C8 (e50 _ _ (by decide)) rfl rfl rfl ?_
   refine C8 (e50 _ _ (by decide)) rfl rfl rfl ?_
   refine C2 ?_
   (refine F4 (c := 64) (s := 1) j4 ?_ ?_ ?_; exact E8; exact E8)
   (refine est j3 rfl rfl j4 ?_ (splW _ _ _ ?_) ?_; (show _ + 1 ≤ _; rw [List.length_map]; omega); omega)
   refine F6 ?_
   refine B7 ?_
   exact C6 (ih (j + 1) (by omega) (by omega)) (by (repeat first | exact LE.nil _ | refine LE.unk _ _ ?_ | refine LE.eq _ _ _ rfl ?_)) (by (repeat first | exact B8 | (refine C0 ?_ ?_; (first | exact Q0 | ((simp (disch := omega) only [app, upd, hp, if_pos, if_neg, Nat.zero_add, Nat.mul_one, Int.toNat_natCast]); first | (rw [W1_zero, show (16 : Nat) = i by omega]; rfl) | (rw [W1_succ]; rfl)))))) (Nat.le_refl _)
  ·(apply D2 (vs := [.int _ _, .int _ _, .int _ _, .int _ _, .int _ _, .int _ _, .int _ _, .int _ _]) j2; exact Q0; rfl; rfl; exact kb; rfl)
   refine est (u := .agg [.int _ _, .int _ _, .int _ _, .int _ _, .int _ _, .int _ _, .int _ _, .int _ _]) j3 rfl rfl j4 kb rfl ?_
   refine A9 (fun (i2 : Nat) => [.unk, .unk, .ptr 0 0 0, .unk, .ptr 1 0 0, .ptr 2 0 0, .unk, .unk, .unk, .unk, .ptr 3 0 0, .unk, .unk, .unk, .unk, .unk, .unk, .unk, .unk, .unk, .unk, .unk, .unk, .unk, .unk, .unk, .unk, .unk, .unk, .unk, .unk, .unk, .unk, .unk, .unk, .unk, .unk, .unk, .unk, .unk, .unk, .unk, .unk, .unk, .unk, .unk, .unk, .unk, .unk, .unk, .unk, .unk, .unk, .unk, .unk, .unk, .unk, .unk, .unk, .unk, .unk, .unk, .unk, .unk, .unk, .unk, .unk, .unk, .unk, .unk, .unk, .unk, .unk, .unk, .unk, .unk, .unk, .unk, .unk, .unk, .unk, .unk, .unk, .unk, .unk, .unk, .unk, .unk, .unk, .unk, .unk, .unk, .unk, .unk, .unk, .unk, .unk, .int .i64 i2]) (fun (i2 : Nat) => hp [(0, ⟨[q.V], 8, 291⟩), (1, ⟨[List.replicate 8 (wV 0)], 8, 291⟩), (2, ⟨[(sched B).map wV], 64, 324⟩), (3, ⟨[(rnds (sched B) q i2).V], 8, 291⟩)]) (fun (i2 : Nat) => 4) (fun (i2 : Nat) => i2 ≤ 64) (fun (i2 : Nat) => 64 - i2) 0 ?_ ?_ ?_ ?_ ?_
   ·exact Nat.zero_le _
   ·(repeat first | exact LE.nil _ | refine LE.unk _ _ ?_ | refine LE.eq _ _ _ rfl ?_)
   ·(repeat first | exact B8 | (refine C0 ?_ ?_; (first | exact Q0 | ((simp (disch := omega) only [app, upd, hp, if_pos, if_neg, Nat.zero_add, Nat.mul_one, Int.toNat_natCast]); first | (rw [rnds_zero]; rfl) | (rw [rnds_succ, hr]; rfl) | (unfold sched; rw [show (48 : Nat) = j by omega]; rfl)))))
   ·exact Nat.le_refl _
   intro i2 hI ih
   have hL2 : (sched B).length = 64 := J1 (W0 B 16) (G5 B 16) 48
   generalize hr : rnds (sched B) q i2 = r
   refine A7 (st := []) ?_
   refine br ?_ ?_ <;> intro h14_0
   ·(refine F4 (c := 8) (s := 1) j4 ?_ ?_ ?_; exact E8; exact E8)
    refine A4 ?_
    (refine F4 (c := 8) (s := 1) j4 ?_ ?_ ?_; exact E8; exact E8)
    refine A4 ?_
    refine C8 (e50 _ _ (by decide)) rfl rfl rfl ?_
    refine C8 (e50 _ _ (by decide)) rfl rfl rfl ?_
    refine C8 (e50 _ _ (by decide)) rfl rfl rfl ?_
    (refine F4 (c := 8) (s := 1) j4 ?_ ?_ ?_; exact E8; exact E8)
    refine A4 ?_
    (refine F4 (c := 8) (s := 1) j4 ?_ ?_ ?_; exact E8; exact E8)
    refine A4 ?_
    (refine eixAi (c := 64) (s := 1) j4 ?_ ?_ (dropGet (by exact tabGet (by omega))) ?_; exact E8; exact E8)
    (refine F4 (c := 64) (s := 1) j4 ?_ ?_ ?_; exact E8; exact E8)
    refine A4 ?_ (by exact Q0) (by rfl) (by exact getW (by omega))
    (refine F4 (c := 8) (s := 1) j4 ?_ ?_ ?_; exact E8; exact E8)
    refine A4 ?_
    refine C8 (e50 _ _ (by decide)) rfl rfl rfl ?_
    (refine F4 (c := 8) (s := 1) j4 ?_ ?_ ?_; exact E8; exact E8)
    refine A4 ?_
    refine C8 (e50 _ _ (by decide)) rfl rfl rfl ?_
    (refine F4 (c := 8) (s := 1) j4 ?_ ?_ ?_; exact E8; exact E8)
    refine A4 ?_
    refine C8 (e50 _ _ (by decide)) rfl rfl rfl ?_
    (refine F4 (c := 8) (s := 1) j4 ?_ ?_ ?_; exact E8; exact E8)
    refine A4 ?_
    (refine F4 (c := 8) (s := 1) j4 ?_ ?_ ?_; exact E8; exact E8)
    refine A4 ?_
    (refine F4 (c := 8) (s := 1) j4 ?_ ?_ ?_; exact E8; exact E8)
    refine A4 ?_
    (refine F4 (c := 8) (s := 1) j4 ?_ ?_ ?_; exact E8; exact E8)
    refine A4 ?_
    (refine F4 (c := 8) (s := 1) j4 ?_ ?_ ?_; exact E8; exact E8)
    refine A4 ?_
    (refine F4 (c := 8) (s := 1) j4 ?_ ?_ ?_; exact E8; exact E8)
    refine A4 ?_
    (refine F4 (c := 8) (s := 1) j4 ?_ ?_ ?_; exact E8; exact E8)
    refine A4 ?_
    (refine F4 (c := 8) (s := 1) j4 ?_ ?_ ?_; exact E8; exact E8)
    refine A4 ?_
    (refine F4 (c := 8) (s := 1) j4 ?_ ?_ ?_; exact E8; exact E8)
    refine A4 ?_
    (refine F4 (c := 8) (s := 1) j4 ?_ ?_ ?_; exact E8; exact E8)
    refine A4 ?_
    (refine F4 (c := 8) (s := 1) j4 ?_ ?_ ?_; exact E8; exact E8)
    refine A4 ?_
    (refine F4 (c := 8) (s := 1) j4 ?_ ?_ ?_; exact E8; exact E8)
    refine A4 ?_
    (refine F4 (c := 8) (s := 1) j4 ?_ ?_ ?_; exact E8; exact E8)
    refine A4 ?_
    refine est (u := .agg [.int _ _, .int _ _, .int _ _, .int _ _, .int _ _, .int _ _, .int _ _, .int _ _]) j3 rfl rfl j4 kb rfl ?_
    refine B7 ?_
    exact C6 (ih (i2 + 1) (by omega) (by omega)) (by (repeat first | exact LE.nil _ | refine LE.unk _ _ ?_ | refine LE.eq _ _ _ rfl ?_)) (by (repeat first | exact B8 | (refine C0 ?_ ?_; (first | exact Q0 | ((simp (disch := omega) only [app, upd, hp, if_pos, if_neg, Nat.zero_add, Nat.mul_one, Int.toNat_natCast]); first | (rw [rnds_zero]; rfl) | (rw [rnds_succ, hr]; rfl) | (unfold sched; rw [show (48 : Nat) = j by omega]; rfl)))))) (Nat.le_refl _)
   ·refine A9 (fun (i3 : Nat) => [.unk, .unk, .ptr 0 0 0, .unk, .ptr 1 0 0, .unk, .unk, .unk, .unk, .unk, .ptr 3 0 0, .unk, .unk, .unk, .unk, .unk, .unk, .unk, .unk, .unk, .unk, .unk, .unk, .unk, .unk, .unk, .unk, .unk, .unk, .unk, .unk, .unk, .unk, .unk, .unk, .unk, .unk, .unk, .unk, .unk, .unk, .unk, .unk, .unk, .unk, .unk, .unk, .unk, .unk, .unk, .unk, .unk, .unk, .unk, .unk, .unk, .unk, .unk, .unk, .unk, .unk, .unk, .unk, .unk, .unk, .unk, .unk, .unk, .unk, .unk, .unk, .unk, .unk, .unk, .unk, .unk, .unk, .unk, .unk, .unk, .unk, .unk, .unk, .unk, .unk, .unk, .unk, .unk, .unk, .unk, .unk, .unk, .unk, .unk, .unk, .unk, .unk, .unk, .unk, .unk, .unk, .unk, .unk, .unk, .unk, .unk, .unk, .unk, .unk, .unk, .unk, .unk, .unk, .unk, .unk, .unk, .unk, .unk, .unk, .unk, .unk, .unk, .unk, .unk, .unk, .unk, .unk, .unk, .unk, .unk, .unk, .unk, .unk, .unk, .unk, .unk, .unk, .unk, .unk, .unk, .unk, .unk, .unk, .unk, .unk, .unk, .unk, .unk, .unk, .unk, .unk, .unk, .unk, .unk, .unk, .unk, .unk, .unk, .unk, .unk, .unk, .unk, .unk, .unk, .unk, .unk, .unk, .unk, .unk, .unk, .unk, .unk, .unk, .unk, .unk, .unk, .unk, .unk, .unk, .unk, .unk, .unk, .int .i64 i3]) (fun (i3 : Nat) => hp [(0, ⟨[(addW q (rnds (sched B) q 64) i3).map wV], 8, 291⟩), (1, ⟨[List.replicate 8 (wV 0)], 8, 291⟩), (3, ⟨[(rnds (sched B) q 64).L.map wV], 8, 291⟩)]) (fun (i3 : Nat) => 4) (fun (i3 : Nat) => i3 ≤ 8) (fun (i3 : Nat) => 8 - i3) 0 ?_ ?_ ?_ ?_ ?_
    ·exact Nat.zero_le _
    ·(repeat first | exact LE.nil _ | refine LE.unk _ _ ?_ | refine LE.eq _ _ _ rfl ?_)
    ·(repeat first | exact B8 | (refine C0 ?_ ?_; (first | exact Q0 | ((simp (disch := omega) only [app, upd, hp, if_pos, if_neg, Nat.zero_add, Nat.mul_one, Int.toNat_natCast]); first | (rw [addW_zero]; rfl) | (rw [show (64 : Nat) = i2 by omega, hr]; rfl) | (rw [addW_succ, hA]; rfl)))))
    ·exact Nat.le_refl _
    intro i3 hI ih
    have hL3 := K7 q (rnds (sched B) q 64) i3
    have hL4 : (rnds (sched B) q 64).L.length = 8 := rfl
    generalize hA : addW q (rnds (sched B) q 64) i3 = A8 at *
    obtain ⟨x0, x1, x2, x3, x4, x5, x6, x7, rfl⟩ := len8 hL3
    have hL5 : [x0, x1, x2, x3, x4, x5, x6, x7].length = 8 := rfl
    refine A7 (st := []) ?_
    refine br ?_ ?_ <;> intro h22_0
    ·(refine F4 (c := 8) (s := 1) j4 ?_ ?_ ?_; exact E8; exact E8)
     refine A4 ?_ (by exact Q0) (by rfl) (by exact getW (by omega))
     (refine F4 (c := 8) (s := 1) j4 ?_ ?_ ?_; exact E8; exact E8)
     refine A4 ?_ (by exact Q0) (by rfl) (by exact getW (by omega))
     (refine F4 (c := 8) (s := 1) j4 ?_ ?_ ?_; exact E8; exact E8)
     (refine est j3 rfl rfl j4 ?_ (splW _ _ _ ?_) ?_; (show _ + 1 ≤ _; rw [List.length_map]; omega); omega)
     refine F6 ?_
     refine B7 ?_
     exact C6 (ih (i3 + 1) (by omega) (by omega)) (by (repeat first | exact LE.nil _ | refine LE.unk _ _ ?_ | refine LE.eq _ _ _ rfl ?_)) (by (repeat first | exact B8 | (refine C0 ?_ ?_; (first | exact Q0 | ((simp (disch := omega) only [app, upd, hp, if_pos, if_neg, Nat.zero_add, Nat.mul_one, Int.toNat_natCast]); first | (rw [addW_zero]; rfl) | (rw [show (64 : Nat) = i2 by omega, hr]; rfl) | (rw [addW_succ, hA]; rfl)))))) (Nat.le_refl _)
    ·(apply D2 (vs := [.int _ _, .int _ _, .int _ _, .int _ _, .int _ _, .int _ _, .int _ _, .int _ _]) j2; exact Q0; rfl; rfl; exact kb; rfl)
     refine est (u := .agg [.int _ _, .int _ _, .int _ _, .int _ _, .int _ _, .int _ _, .int _ _, .int _ _]) j3 rfl rfl j4 kb rfl ?_
     have h8 := hA
     rw [show i3 = 8 by omega, addW_end] at h8
     simp only [List.cons.injEq, and_true] at h8
     obtain ⟨rfl, rfl, rfl, rfl, rfl, rfl, rfl, rfl⟩ := h8
     exact E4 rfl rfl
open Go.V
set_option linter.unusedVariables false
set_option linter.unusedSimpArgs false
set_option maxRecDepth 20000
set_option maxHeartbeats 4000000
def sh8 (y : Int) : Int := y.fdiv (2 ^ (min (8 : Int).toNat IntKind.i64.bits))
def numL (x : Int) : Nat → List Int
 | 0 => []
 | k + 1 => numL (sh8 x) k ++ [IntKind.u8.wrap x]
theorem L7 (x : Int) (k : Nat) : numL x (k + 1) = numL (sh8 x) k ++ [IntKind.u8.wrap x] := rfl
theorem A5 (m : Nat) : ∀ x, (numL x m).length = m := by
 induction m with
 | zero => intro x; rfl
 | succ k ih => intro x; rw [L7, List.length_append, ih]; rfl
theorem setRep (k : Nat) (T : List Int) (v : Int) : (List.replicate (k + 1) 0 ++ T).set k v = List.replicate k 0 ++ v :: T := by
 rw [List.replicate_succ', List.append_assoc, List.set_append_right _ _ (by simp)]
 simp
theorem e37 (x : Int) (m : Nat) (hm : m ≤ 8) : Pure En 191 [.one (.int .i64 x), .one (.int .i64 m)] [.one (.str (strOw (numL x m)))] := by
 refine Pure.of_ev (st := []) Tryz.func191 rfl kb ?_
 refine emk (s' := 1) j6 kz ?_ ?_ ?_
 ·exact E8
 ·exact E8
 refine B7 ?_
 refine A9 (fun (a : Int × Int × List Int × List Int) => [.int .i64 a.2.1, .int .i64 m, .unk, .unk, .unk, .view 0 0 m, .int .i64 (a.1 - 1)]) (fun (a : Int × Int × List Int × List Int) => hp [(0, ⟨a.2.2.1.map bV, 1, 5⟩)]) (fun (a : Int × Int × List Int × List Int) => 1) (fun (a : Int × Int × List Int × List Int) => a.2.2.1.length = m ∧ a.1 ≤ m ∧ numL x m = numL a.2.1 a.1.toNat ++ a.2.2.2 ∧ a.2.2.1 = List.replicate a.1.toNat 0 ++ a.2.2.2) (fun (a : Int × Int × List Int × List Int) => a.1.toNat) ((m : Int), x, List.replicate m 0, []) ?_ ?_ ?_ ?_ ?_
 ·exact ⟨List.length_replicate .., Int.le_refl _, (List.append_nil _).symm, (List.append_nil _).symm⟩
 ·(repeat first | exact LE.nil _ | refine LE.unk _ _ ?_ | refine LE.eq _ _ _ rfl ?_)
 ·(repeat first | exact B8 | (refine C0 ?_ ?_; (first | exact Q0 | (dsimp only; rw [List.map_replicate]; rfl) | (dsimp only; rw [List.map_set, Nat.zero_add]; rfl))))
 ·exact Nat.le_refl _
 intro ⟨i, y, L, T⟩ hI ih
 dsimp only at hI ⊢
 refine A7 (st := []) ?_
 refine br ?_ ?_ <;> intro h3_1
 ·(refine mem (by exact Q0) ⟨rfl, C2 ?_⟩)
  (apply est j3; rfl; exact B9 bV 0 (show 0 + (i - 1 : Int).toNat < L.length by omega); exact j4; exact kb; rfl)
  refine C2 ?_
  refine B7 ?_
  obtain ⟨k, hk, hk2⟩ : ∃ k : Nat, i.toNat = k + 1 ∧ (i - 1).toNat = k := ⟨(i - 1).toNat, by omega, rfl⟩
  exact C6 (ih (i - 1, sh8 y, L.set (i - 1 : Int).toNat (IntKind.u8.wrap y), IntKind.u8.wrap y :: T) ⟨by dsimp only; rw [List.length_set]; exact hI.1, by dsimp only; omega, by dsimp only; rw [hI.2.2.1, hk, hk2, L7, List.append_assoc]; rfl, by dsimp only; rw [hI.2.2.2, hk, hk2, setRep]⟩ (by dsimp only; omega)) (by (repeat first | exact LE.nil _ | refine LE.unk _ _ ?_ | refine LE.eq _ _ _ rfl ?_)) (by (repeat first | exact B8 | (refine C0 ?_ ?_; (first | exact Q0 | (dsimp only; rw [List.map_replicate]; rfl) | (dsimp only; rw [List.map_set, Nat.zero_add]; rfl))))) (Nat.le_refl _)
 ·(apply esg j4; (apply E0 rfl; exact Q0; (first | exact Nat.le_refl _ | omega | (simp; omega)); rfl); (intro s e; cases e); exact takeAll hI.1)
  rw [show numL x m = L by rw [hI.2.2.1, hI.2.2.2, show i.toNat = 0 by omega]; rfl]; exact E4 rfl rfl
def q0 : W8 := ⟨1779033703, 3144134277, 1013904242, 2773480762, 1359893119, 2600822924, 528734635, 1541459225⟩
def blks (F : List Int) : Nat → W8
 | 0 => q0
 | k + 1 => blk8 (blks F k) ((F.drop (64 * k)).take 64)
theorem T5 (F : List Int) : blks F 0 = q0 := rfl
theorem T6 (F : List Int) (k : Nat) : blks F (k + 1) = blk8 (blks F k) ((F.drop (64 * k)).take 64) := rfl
def outS (q : W8) : Nat → ByteArray
 | 0 => ⟨#[]⟩
 | i + 1 => outS q i ++ strOw (numL (IntKind.i64.wrap (q.L.getD i 0)) 4)
theorem T7 (q : W8) : outS q 0 = ⟨#[]⟩ := rfl
theorem T8 (q : W8) (i : Nat) : outS q (i + 1) = outS q i ++ strOw (numL (IntKind.i64.wrap (q.L.getD i 0)) 4) := rfl
def padL (t : ByteArray) : List Int := byt t ++ 128 :: List.replicate ((120 - (t.size + 1) % 64) % 64) 0
def shaF (t : ByteArray) : List Int := padL t ++ byt (strOw (numL (8 * (t.size : Int)) 8))
def sha (t : ByteArray) : ByteArray := outS (blks (shaF t) ((shaF t).length / 64)) 8
attribute [irreducible] blks outS numL
attribute [local irreducible] blk8
theorem e45 (t : ByteArray) (ht : t.size ≤ 1000000) : Pure En 190 [.one (.str t)] [.one (.str (sha t))] := by
 have hn8 : (strOw (numL (8 * (t.size : Int)) 8)).size = 8 := by rw [C3, A5]
 refine Pure.of_ev (st := []) Tryz.func190 rfl kb ?_
 refine ebt j5 ?_
 refine D3 (es := [[.int _ _]]) j4 kz kb rfl rfl ?_
 (apply eap (s' := 1) (es := [[.int _ _]]) rfl rfl; exact Q0; exact j2; (first | rfl | omega | (rw [List.length_map]; omega) | (rw [J7]; exact Nat.zero_add _)); exact j2; exact kz; (first | rfl | (apply E0 rfl; (first | rfl | ((simp (disch := omega) only [app, upd, hp, if_pos, if_neg]); rfl)); (first | exact Nat.le_refl _ | omega); rfl)); exact Q6; exact Q34; exact Q34)
 refine A9 (fun (a : List Int × Nat × Nat × Nat × Nat) => [.str t, .unk, .unk, .view a.2.2.1 0 a.2.1]) (fun (a : List Int × Nat × Nat × Nat × Nat) => hp [(a.2.2.1, ⟨a.1.map bV, 1, 5⟩)]) (fun (a : List Int × Nat × Nat × Nat × Nat) => a.2.2.2.1) (fun (a : List Int × Nat × Nat × Nat × Nat) => a.1.length = a.2.1 ∧ a.2.2.1 < a.2.2.2.1 ∧ t.size < a.2.1 ∧ a.2.1 + (120 - a.2.1 % 64) % 64 ≤ t.size + 100 ∧ a.1 = byt t ++ 128 :: List.replicate a.2.2.2.2 0 ∧ a.2.2.2.2 + (120 - a.2.1 % 64) % 64 = (120 - (t.size + 1) % 64) % 64) (fun (a : List Int × Nat × Nat × Nat × Nat) => (120 - a.2.1 % 64) % 64) (byt t ++ [128], t.size + 1, 2, 3, 0) ?_ ?_ ?_ ?_ ?_
 ·exact ⟨by dsimp only; rw [List.length_append, C4]; rfl, by dsimp only; omega, by dsimp only; omega, by dsimp only; omega, rfl, by dsimp only; omega⟩
 ·(repeat first | exact LE.nil _ | refine LE.unk _ _ ?_ | refine LE.eq _ _ _ rfl ?_)
 ·(repeat first | exact B8 | (refine C0 ?_ ?_; (first | exact Q0 | (dsimp only; rw [List.map_append, ← bytRows]; rfl) | ((simp (disch := omega) only [app, upd, hp, if_pos, if_neg]); rw [List.map_append]; rfl))))
 ·exact Nat.le_refl _
 intro ⟨L, ln, id, m, z⟩ hI ih
 dsimp only at hI ⊢
 have hP := hI
 refine A7 (st := []) ?_
 refine sd (by exact Q27) ?_
 refine br ?_ ?_ <;> intro h2_3
 ·refine D3 (es := [[.int _ _]]) j4 kz kb rfl rfl ?_
  (apply eap (s' := 1) (es := [[.int _ _]]) rfl rfl; exact Q0; exact j2; (first | rfl | omega | (rw [List.length_map]; omega) | (rw [J7]; exact Nat.zero_add _)); exact j2; exact kz; (first | rfl | (apply E0 rfl; (first | rfl | ((simp (disch := omega) only [app, upd, hp, if_pos, if_neg]); rfl)); (first | exact Nat.le_refl _ | omega); rfl)); exact Q6; exact Q34; exact Q34)
  rw [tm64] at h2_3
  exact C6 (ih (L ++ [0], ln + 1, m + 1, m + 2, z + 1) ⟨by dsimp only; rw [List.length_append, hI.1]; rfl, by dsimp only; omega, by dsimp only; omega, by dsimp only; omega, by dsimp only; rw [hI.2.2.2.2.1, List.append_assoc, List.cons_append, List.replicate_succ'], by dsimp only; omega⟩ (by dsimp only; omega)) (by (repeat first | exact LE.nil _ | refine LE.unk _ _ ?_ | refine LE.eq _ _ _ rfl ?_)) (by (repeat first | exact B8 | (refine C0 ?_ ?_; (first | exact Q0 | (dsimp only; rw [List.map_append, ← bytRows]; rfl) | ((simp (disch := omega) only [app, upd, hp, if_pos, if_neg]); rw [List.map_append]; rfl))))) (Nat.le_refl _)
 ·refine D6 ⟨by exact Q27, by exact Q27⟩ ?_
  refine C8 (e37 _ 8 kb) rfl rfl rfl ?_
  (apply eap (s' := 1)  rfl rfl; exact Q0; exact j2; (first | rfl | omega | (rw [List.length_map]; omega) | (rw [J7]; exact Nat.zero_add _)); exact j2; exact kz; (first | rfl | (apply E0 rfl; (first | rfl | ((simp (disch := omega) only [app, upd, hp, if_pos, if_neg]); rfl)); (first | exact Nat.le_refl _ | omega); rfl)); exact Q6; exact Q34; exact Q34)
  (apply est (u := .agg [.int _ _, .int _ _, .int _ _, .int _ _, .int _ _, .int _ _, .int _ _, .int _ _]) j3; exact Q0; rfl; exact j4; exact kb; rfl)
  refine A9 (fun (a : Nat × Nat × W8) => [.unk, .unk, .unk, .view m a.1 a.2.1, .ptr (m + 1) 0 0]) (fun (a : Nat × Nat × W8) => hp [(m, ⟨(L ++ byt (strOw (numL (8 * (t.size : Int)) 8))).map bV, 1, 5⟩), (m + 1, ⟨[a.2.2.V], 8, 291⟩)]) (fun (a : Nat × Nat × W8) => m + 2) (fun (a : Nat × Nat × W8) => a.1 + a.2.1 = ln + 8 ∧ a.2.1 % 64 = 0 ∧ a.2.2 = blks (L ++ byt (strOw (numL (8 * (t.size : Int)) 8))) (a.1 / 64)) (fun (a : Nat × Nat × W8) => a.2.1) (0, ln + ((strOw (numL (8 * (t.size : Int)) 8)).data.toList.map fun b => [V.int .u8 (b.toNat : Int)]).length, q0) ?_ ?_ ?_ ?_ ?_
  ·have hn8 : (strOw (numL (8 * (t.size : Int)) 8)).size = 8 := by rw [C3, A5]
   rw [tm64] at h2_3; exact ⟨by dsimp only; rw [J7, hn8]; omega, by dsimp only; rw [J7, hn8]; omega, by dsimp only; rw [Nat.zero_div, T5]⟩
  ·(repeat first | exact LE.nil _ | refine LE.unk _ _ ?_ | refine LE.eq _ _ _ rfl ?_)
  ·(repeat first | exact B8 | (refine C0 ?_ ?_; (first | exact Q0 | ((simp (disch := omega) only [app, upd, hp, if_pos, if_neg]); rw [List.map_append, ← bytRows]; rfl))))
  ·exact Nat.le_refl _
  intro ⟨off, l2, q⟩ hI ih
  dsimp only at hI ⊢
  have hx : (strOw (numL (8 * (t.size : Int)) 8)).size = 8 := by rw [C3, A5]
  have hQ := hI
  refine A7 (st := []) ?_
  refine br ?_ ?_ <;> intro h6_2
  ·(apply D2 (vs := [.int _ _, .int _ _, .int _ _, .int _ _, .int _ _, .int _ _, .int _ _, .int _ _]) j2; exact Q0; rfl; rfl; exact kb; rfl)
   (apply eslv j3; exact Q0; exact j3; exact Q27; exact Q27; exact Q27)
   apply T3 [m] (e48 q true ((((L ++ byt (strOw (numL (8 * (t.size : Int)) 8))).drop off).take 64)) (by rw [List.length_take, List.length_drop, List.length_append, C4, hx]; omega)) rfl rfl rfl
   ·refine SnapL.cons _ _ _ _ (SnapC.agg ?_) (SnapL.cons _ _ _ _ (.one _ _ (snapCut (b := ⟨(L ++ byt (strOw (numL (8 * (t.size : Int)) 8))).map bV, 1, 5⟩) (L ++ byt (strOw (numL (8 * (t.size : Int)) 8))) (List.mem_singleton.2 rfl) ?_ rfl ?_)) SnapL.nil)
    ·(repeat first | exact SnapC.nil | refine SnapC.cons _ _ _ _ ?_ ?_ | exact .int _ _)
    ·((simp (disch := omega) only [app, upd, hp, if_pos, if_neg]); rfl)
    ·(rw [List.length_append, C4, hx]; omega)
   (apply est (u := .agg [.int _ _, .int _ _, .int _ _, .int _ _, .int _ _, .int _ _, .int _ _, .int _ _]) j3; exact Q0; rfl; exact j4; exact kb; rfl)
   refine F6 ?_
   (apply eslv j3; exact Q0; exact j3; exact Q27; exact Q27; exact Q27)
   rw [tm64] at h2_3
   exact C6 (ih (off + 64, l2 - 64, blk8 q (((L ++ byt (strOw (numL (8 * (t.size : Int)) 8))).drop off).take 64)) ⟨by dsimp only; omega, by dsimp only; omega, by dsimp only; rw [show (off + 64) / 64 = off / 64 + 1 by omega, T6, show 64 * (off / 64) = off by omega, ← hI.2.2]⟩ (by dsimp only; omega)) (by (repeat first | exact LE.nil _ | refine LE.unk _ _ ?_ | refine LE.eq _ _ _ rfl ?_)) (by (repeat first | exact B8 | (refine C0 ?_ ?_; (first | exact Q0 | ((simp (disch := omega) only [app, upd, hp, if_pos, if_neg]); rw [List.map_append, ← bytRows]; rfl))))) (Nat.le_refl _)
  ·(apply D2 (vs := [.int _ _, .int _ _, .int _ _, .int _ _, .int _ _, .int _ _, .int _ _, .int _ _]) j2; exact Q0; rfl; rfl; exact kb; rfl)
   refine X2 (fun (a : Nat × ByteArray) => [.unk, .unk, .unk, .unk, .unk, .str a.2, .unk, .unk, .unk, .unk, .unk, .unk, .unk, .unk, .unk, .unk, .unk, .unk, .unk, .unk, .unk, .unk, .unk, .unk, .unk, .unk, .unk, .unk, .unk, .unk, .unk, .unk, .unk, .unk, .unk, .agg q.V, .int .i64 a.1]) (fun (a : Nat × ByteArray) => a.1 ≤ 8 ∧ a.2.size = 4 * a.1 ∧ a.2 = outS q a.1) (fun (a : Nat × ByteArray) => 8 - a.1) (0, ⟨#[]⟩) ?_ ?_ ?_
   ·exact ⟨Nat.zero_le _, rfl, by dsimp only; rw [T7]⟩
   ·(repeat first | exact LE.nil _ | refine LE.unk _ _ ?_ | refine LE.eq _ _ _ rfl ?_)
   intro ⟨i, s⟩ hI ih
   dsimp only at hI ⊢
   have hn4 := fun x => (C3 (numL x 4)).trans (A5 4 x)
   refine A7 (st := []) ?_
   refine br ?_ ?_ <;> intro h11_0
   ·(apply eixg (c := 8) (s := 1) j5; exact Q27; exact Q27; exact getW (L := [q.a, q.b, q.c, q.d, q.e, q.f, q.g, q.h]) (by show _ < 8; omega); (show _ + 1 ≤ 8; omega))
    refine cvW ?_
    refine C8 (e37 _ 4 kb) rfl rfl rfl ?_
    refine sd (by exact Q27) ?_
    refine D6 ⟨by exact Q27, by exact Q27⟩ ?_
    exact wlN (ih (i + 1, s ++ strOw (numL (IntKind.i64.wrap (q.L.getD ((i : Int).toNat * 1) 0)) 4)) ⟨by dsimp only; omega, by dsimp only; rw [ByteArray.size_append, hn4]; omega, by dsimp only; rw [T8, ← hI.2.2, Nat.mul_one, Int.toNat_natCast]⟩ (by dsimp only; omega)) (by (repeat first | exact LE.nil _ | refine LE.unk _ _ ?_ | refine LE.eq _ _ _ rfl ?_))
   ·have hs : s = sha t := by
     rw [tm64] at h2_3
     have hz : L = padL t := by rw [hP.2.2.2.2.1]; unfold padL; rw [show z = (120 - (t.size + 1) % 64) % 64 by omega]
     have hk : off / 64 = (shaF t).length / 64 := by unfold shaF; rw [List.length_append, ← hz, hP.1, C4, hx]; omega
     rw [hI.2.2, show i = 8 by omega, hQ.2.2, hk, hz]; rfl
    rw [hs]; exact E4 rfl rfl
end Go.Proofs.YteifdelnahccjaaGreatDoor

namespace Go.Proofs.YteifdelnahccjaaGreatDoor
open Go.V
theorem orb_comm (a b : Int) : orb a b = orb b a := by
 unfold orb bits
 dsimp only
 rw [BitVec.or_comm]
theorem ofW (v : BitVec 32) : BitVec.ofInt 32 (IntKind.u32.wrap (v.toNat : Int)) = v := by
 have h := v.isLt
 have e : IntKind.u32.wrap (v.toNat : Int) = (v.toNat : Int) % (2 ^ 32 : Int) := rfl
 rw [e, Int.emod_eq_of_lt (by omega) (by omega)]
 apply BitVec.eq_of_toNat_eq
 simp
theorem ch_eq (e f g : Int) : orb (anb e f) (anb (xo (if IntKind.u32.signed = true then -1 else IntKind.u32.max) e) g) = xo (anb e f) (anb (xo (if IntKind.u32.signed = true then -1 else IntKind.u32.max) e) g) := by
 have o1 : ∀ a b, orb a b = IntKind.u32.wrap ((BitVec.ofInt 32 a ||| BitVec.ofInt 32 b).toNat : Int) := fun _ _ => rfl
 have o2 : ∀ a b, anb a b = IntKind.u32.wrap ((BitVec.ofInt 32 a &&& BitVec.ofInt 32 b).toNat : Int) := fun _ _ => rfl
 have o3 : ∀ a b, xo a b = IntKind.u32.wrap ((BitVec.ofInt 32 a ^^^ BitVec.ofInt 32 b).toNat : Int) := fun _ _ => rfl
 have hM : BitVec.ofInt 32 (if IntKind.u32.signed = true then -1 else IntKind.u32.max) = BitVec.allOnes 32 := by decide
 have key : ∀ E F G : BitVec 32, (E &&& F ||| (BitVec.allOnes 32 ^^^ E) &&& G) = (E &&& F ^^^ (BitVec.allOnes 32 ^^^ E) &&& G) := by
  intro E F G
  ext i hi
  simp only [BitVec.getElem_or, BitVec.getElem_xor, BitVec.getElem_and, BitVec.getElem_allOnes]
  cases E[i] <;> cases F[i] <;> cases G[i] <;> rfl
 rw [o1, o3 (anb e f), o2, o2, o3, ofW, ofW, ofW, hM, key]
open Go.V
set_option linter.unusedVariables false
set_option linter.unusedSimpArgs false
set_option maxRecDepth 20000
set_option maxHeartbeats 4000000
theorem e127 (x k : Int) (hk : 0 ≤ k ∧ k ≤ 31) : Pure En 306 [.one (.int .u32 x), .one (.int .u64 k)] [.one (.int .u32 (rt x k))] := by
 have h1 : IntKind.u64.wrap (32 - k) = 32 - k := by
  have e : IntKind.u64.wrap (32 - k) = (32 - k) % (2 ^ 64 : Int) := rfl
  have e2 : (2 ^ 64 : Int) = 18446744073709551616 := rfl
  rw [e, e2]; omega
 refine Pure.of_ev (st := []) Tryz.func306 rfl kb ?_
 refine sd (by (first | omega | exact J6 _)) ?_
 refine sd (by (first | omega | exact J6 _)) ?_
 rw [show rt x k = orb (sr x k) (sl x (IntKind.u64.wrap (32 - k))) by unfold rt; rw [h1, orb_comm]]; exact E4 rfl rfl
theorem e117 : Pure En 271 [] [.one (.sl true (roundW.map fun x => [.int .u32 x]))] := by
 refine Pure.of_ev (st := []) Tryz.func271 rfl kb ?_
 refine D3 (es := roundW.map fun x => [V.int .u32 x]) j4 kz kb rfl rfl ?_
 exact C7 [0] rfl (SnapL.cons _ _ _ _ (.one _ _ (A3 (b := ⟨_, _, _⟩) (roundW.map fun x => [.int .u32 x]) (List.mem_singleton.2 rfl) rfl rfl rfl)) SnapL.nil)
open Go.V
set_option linter.unusedVariables false
set_option linter.unusedSimpArgs false
set_option maxRecDepth 20000
set_option maxHeartbeats 4000000
def uV (x : Int) : List V := [.int .u32 x]
def uT (x : Int) : List T := [.int .u32 x]
theorem wbF (F : List Int) {off i : Nat} (hi : i < 16) (ho : off + 64 ≤ F.length) : wbB ((F.drop off).take 64) i = orb (orb (orb (sl (IntKind.u32.wrap (F.getD (off + (4 * (i : Int)).toNat) 0)) 24) (sl (IntKind.u32.wrap (F.getD (off + (4 * (i : Int) + 1).toNat) 0)) 16)) (sl (IntKind.u32.wrap (F.getD (off + (4 * (i : Int) + 2).toNat) 0)) 8)) (IntKind.u32.wrap (F.getD (off + (4 * (i : Int) + 3).toNat) 0)) := by
 have g : ∀ k, k < 64 → ((F.drop off).take 64).getD k 0 = F.getD (off + k) 0 := fun k hk => by
  rw [List.getD_eq_getElem?_getD, List.getD_eq_getElem?_getD, List.getElem?_take_of_lt hk, List.getElem?_drop]
 unfold wbB
 rw [g _ (by omega), g _ (by omega), g _ (by omega), g _ (by omega)]
theorem rnd_x (r : W8) (k w : Int) : rnd r k w = (let p := ad (ad (ad (ad r.h (xo (xo (rt r.e 6) (rt r.e 11)) (rt r.e 25))) (xo (anb r.e r.f) (anb (xo (if IntKind.u32.signed = true then -1 else IntKind.u32.max) r.e) r.g))) k) w
 let q := ad (xo (xo (rt r.a 2) (rt r.a 13)) (rt r.a 22)) (xo (xo (anb r.a r.b) (anb r.a r.c)) (anb r.b r.c))
 ⟨ad p q, r.a, r.b, r.c, ad r.d p, r.e, r.f, r.g⟩) := by
 unfold rnd; rw [ch_eq]
theorem e118 (q : W8) (F : List Int) (fr nn : Bool) {hb ab off : Nat} {h : Heap} {n : Nat} (hh : hb < n) (ha : ab < n) (hne : ab ≠ hb) (ho : off + 64 ≤ F.length) (k1 : h hb = some ⟨q.L.map uV, 1, 290⟩) (k2 : h ab = some ⟨F.map bV, 1, 5⟩) :
  V.Open En 272 [.view hb 0 8, .view ab off 64, .sl fr nn (roundW.map uT)] h n (.tup []) [(hb, some ⟨(blk8 q ((F.drop off).take 64)).L.map uV, 1, 290⟩)] (n + 3 + 64) := by
 refine V.Open.fresh rfl (by omega) fun hz => ?_
 refine V.Open.of_ev (st := []) Tryz.func272 rfl kb ?_
 refine emk (s' := 4) j6 kz ?_ ?_ ?_
 ·exact Q2
 ·exact Q2
 refine A9 (fun (i : Nat) => [.view hb 0 8, .view ab off 64, .sl fr nn (roundW.map uT), .unk, .unk, .unk, .view n 0 64, .int .i64 i]) (fun (i : Nat) => app [(n, some ⟨(W0 ((F.drop off).take 64) i).map uV, 1, 290⟩)] h) (fun (i : Nat) => n + 1) (fun (i : Nat) => i ≤ 16) (fun (i : Nat) => 16 - i) 0 ?_ ?_ ?_ ?_ ?_
 ·exact Nat.zero_le _
 ·(repeat first | exact LE.nil _ | refine LE.unk _ _ ?_ | refine LE.eq _ _ _ rfl ?_)
 ·refine I1 (n := n) hz (fun jx hj => ?_) (fun jx hl hn => ?_)
  ·simp only [List.map_cons, List.map_nil, List.mem_cons, List.not_mem_nil, or_false] at hj
   rcases hj with rfl <;> (simp (disch := omega) only [↓app0, ↓appC, ↓updS, ↓updN, ↓hpS, ↓hpN]) <;> first | rfl | assumption | (refine congrArg (fun z => some (Blk.mk z 1 290)) ?_; rw [W0_zero, List.map_replicate]; rfl; done)
  ·simp only [List.map_cons, List.map_nil, List.mem_cons, List.not_mem_nil, or_false, not_or] at hn
   (simp (disch := omega) only [↓app0, ↓appC, ↓updS, ↓updN, ↓hpS, ↓hpN])
 ·exact Nat.le_refl _
 intro i hI ih
 have hL0 := G5 ((F.drop off).take 64) i
 refine A7 (st := []) ?_
 refine br ?_ ?_ <;> intro h2_1
 ·refine D6 ⟨by exact Q2, by exact Q2⟩ ?_
  (refine mem (by exact Q0) ⟨rfl, sd (by exact ⟨by exact Q2, by exact Q2⟩) ?_⟩)
  refine A4 ?_ (by exact Q0) (by exact B9 bV 0 (by omega)) (by rfl)
  refine sd (by exact Q2) ?_
  refine D6 ⟨by exact Q2, by exact Q2⟩ ?_
  refine D6 ⟨by exact Q2, by exact Q2⟩ ?_
  (refine mem (by exact Q0) ⟨rfl, sd (by exact ⟨by exact Q2, by exact Q2⟩) ?_⟩)
  refine A4 ?_ (by exact Q0) (by exact B9 bV 0 (by omega)) (by rfl)
  refine sd (by exact Q2) ?_
  refine D6 ⟨by exact Q2, by exact Q2⟩ ?_
  refine D6 ⟨by exact Q2, by exact Q2⟩ ?_
  (refine mem (by exact Q0) ⟨rfl, sd (by exact ⟨by exact Q2, by exact Q2⟩) ?_⟩)
  refine A4 ?_ (by exact Q0) (by exact B9 bV 0 (by omega)) (by rfl)
  refine sd (by exact Q2) ?_
  refine D6 ⟨by exact Q2, by exact Q2⟩ ?_
  refine D6 ⟨by exact Q2, by exact Q2⟩ ?_
  (refine mem (by exact Q0) ⟨rfl, sd (by exact ⟨by exact Q2, by exact Q2⟩) ?_⟩)
  refine A4 ?_ (by exact Q0) (by exact B9 bV 0 (by omega)) (by rfl)
  (refine mem (by exact Q0) ⟨rfl, sd (by exact ⟨by exact Q2, by exact Q2⟩) ?_⟩)
  (apply est (u := .int .u32 _) j3; exact Q0; exact B9 uV 0 (by omega); exact j4; exact kb; rfl)
  refine F6 ?_
  refine D6 ⟨by exact Q2, by exact Q2⟩ ?_
  exact C6 (ih (i + 1) (by omega) (by omega)) (by (repeat first | exact LE.nil _ | refine LE.unk _ _ ?_ | refine LE.eq _ _ _ rfl ?_)) (by
   refine I1 (n := n) hz (fun jx hj => ?_) (fun jx hl hn => ?_)
   ·simp only [List.map_cons, List.map_nil, List.mem_cons, List.not_mem_nil, or_false] at hj
    rcases hj with rfl <;> (simp (disch := omega) only [↓app0, ↓appC, ↓updS, ↓updN, ↓hpS, ↓hpN]) <;> first | rfl | assumption | (refine congrArg (fun z => some (Blk.mk z 1 290)) ?_; rw [W0_succ, List.map_set, wbF F (by omega) ho]; (try simp only [Nat.zero_add, Nat.mul_one, Int.toNat_natCast]); rfl; done)
   ·simp only [List.map_cons, List.map_nil, List.mem_cons, List.not_mem_nil, or_false, not_or] at hn
    (simp (disch := omega) only [↓app0, ↓appC, ↓updS, ↓updN, ↓hpS, ↓hpN])) (Nat.le_refl _)
 ·refine A9 (fun (j : Nat) => [.view hb 0 8, .unk, .sl fr nn (roundW.map uT), .unk, .unk, .unk, .view n 0 64, .unk, .int .i64 ((16 + j : Nat) : Int)]) (fun (j : Nat) => app [(n, some ⟨(W1 (W0 ((F.drop off).take 64) 16) j).map uV, 1, 290⟩)] h) (fun (j : Nat) => n + 1) (fun (j : Nat) => j ≤ 48) (fun (j : Nat) => 48 - j) 0 ?_ ?_ ?_ ?_ ?_
  ·exact Nat.zero_le _
  ·(repeat first | exact LE.nil _ | refine LE.unk _ _ ?_ | refine LE.eq _ _ _ rfl ?_)
  ·refine I1 (n := n) hz (fun jx hj => ?_) (fun jx hl hn => ?_)
   ·simp only [List.map_cons, List.map_nil, List.mem_cons, List.not_mem_nil, or_false] at hj
    rcases hj with rfl <;> (simp (disch := omega) only [↓app0, ↓appC, ↓updS, ↓updN, ↓hpS, ↓hpN]) <;> first | rfl | assumption | (refine congrArg (fun z => some (Blk.mk z 1 290)) ?_; rw [W1_zero, show (16 : Nat) = i by omega]; done)
   ·simp only [List.map_cons, List.map_nil, List.mem_cons, List.not_mem_nil, or_false, not_or] at hn
    (simp (disch := omega) only [↓app0, ↓appC, ↓updS, ↓updN, ↓hpS, ↓hpN])
  ·exact Nat.le_refl _
  intro j hI ih
  have hL1 := J1 (W0 ((F.drop off).take 64) 16) (G5 ((F.drop off).take 64) 16) j
  refine A7 (st := []) ?_
  refine br ?_ ?_ <;> intro h6_1
  ·refine D6 ⟨by exact Q2, by exact Q2⟩ ?_
   (refine mem (by exact Q0) ⟨rfl, sd (by exact ⟨by exact Q2, by exact Q2⟩) ?_⟩)
   refine A4 ?_ (by exact Q0) (by exact B9 uV 0 (by omega)) (by rfl)
   refine D6 ⟨by exact Q2, by exact Q2⟩ ?_
   (refine mem (by exact Q0) ⟨rfl, sd (by exact ⟨by exact Q2, by exact Q2⟩) ?_⟩)
   refine A4 ?_ (by exact Q0) (by exact B9 uV 0 (by omega)) (by rfl)
   refine D6 ⟨by exact Q2, by exact Q2⟩ ?_
   (refine mem (by exact Q0) ⟨rfl, sd (by exact ⟨by exact Q2, by exact Q2⟩) ?_⟩)
   refine A4 ?_ (by exact Q0) (by exact B9 uV 0 (by omega)) (by rfl)
   refine C8 (e127 _ _ (by decide)) rfl rfl rfl ?_
   refine C8 (e127 _ _ (by decide)) rfl rfl rfl ?_
   refine sd (by exact Q2) ?_
   refine D6 ⟨by exact Q2, by exact Q2⟩ ?_
   (refine mem (by exact Q0) ⟨rfl, sd (by exact ⟨by exact Q2, by exact Q2⟩) ?_⟩)
   refine A4 ?_ (by exact Q0) (by exact B9 uV 0 (by omega)) (by rfl)
   refine C8 (e127 _ _ (by decide)) rfl rfl rfl ?_
   refine C8 (e127 _ _ (by decide)) rfl rfl rfl ?_
   refine sd (by exact Q2) ?_
   (refine mem (by exact Q0) ⟨rfl, sd (by exact ⟨by exact Q2, by exact Q2⟩) ?_⟩)
   (apply est (u := .int .u32 _) j3; exact Q0; exact B9 uV 0 (by omega); exact j4; exact kb; rfl)
   refine F6 ?_
   refine D6 ⟨by exact Q2, by exact Q2⟩ ?_
   exact C6 (ih (j + 1) (by omega) (by omega)) (by (repeat first | exact LE.nil _ | refine LE.unk _ _ ?_ | refine LE.eq _ _ _ rfl ?_)) (by
    refine I1 (n := n) hz (fun jx hj => ?_) (fun jx hl hn => ?_)
    ·simp only [List.map_cons, List.map_nil, List.mem_cons, List.not_mem_nil, or_false] at hj
     rcases hj with rfl <;> (simp (disch := omega) only [↓app0, ↓appC, ↓updS, ↓updN, ↓hpS, ↓hpN]) <;> first | rfl | assumption | (refine congrArg (fun z => some (Blk.mk z 1 290)) ?_; rw [W1_succ, List.map_set]; (try simp only [Nat.zero_add, Nat.mul_one, Int.toNat_natCast]); rfl; done)
    ·simp only [List.map_cons, List.map_nil, List.mem_cons, List.not_mem_nil, or_false, not_or] at hn
     (simp (disch := omega) only [↓app0, ↓appC, ↓updS, ↓updN, ↓hpS, ↓hpN])) (Nat.le_refl _)
  ·refine D3 (es := []) j4 kz kb rfl rfl ?_
   (apply eap (s' := 4) (es := q.L.map uV) rfl rfl; exact Q0; exact j2; rfl; exact j2; exact kz; (apply E0 rfl; exact Q0; exact Nat.le_refl _; rfl); (intro c hc; obtain ⟨x, _, rfl⟩ := List.mem_map.1 hc; rfl); exact Nat.le_of_ble_eq_true rfl; exact Nat.le_of_ble_eq_true rfl)
   refine A9 (fun (a : Nat × Nat × Nat) => [.view hb 0 8, .unk, .sl fr nn (roundW.map uT), .unk, .unk, .unk, .view n 0 64, .unk, .unk, .unk, .unk, .view a.2.1 0 8, .int .i64 a.1]) (fun (a : Nat × Nat × Nat) => app [(n, some ⟨(sched ((F.drop off).take 64)).map uV, 1, 290⟩), (a.2.1, some ⟨(rnds (sched ((F.drop off).take 64)) q a.1).L.map uV, 1, 290⟩)] h) (fun (a : Nat × Nat × Nat) => a.2.2) (fun (a : Nat × Nat × Nat) => a.1 ≤ 64 ∧ n < a.2.1 ∧ a.2.1 < a.2.2 ∧ a.2.2 = n + 3 + a.1) (fun (a : Nat × Nat × Nat) => 64 - a.1) (0, n + 2, n + 3) ?_ ?_ ?_ ?_ ?_
   ·exact ⟨Nat.zero_le _, by dsimp only; omega, by dsimp only; omega, rfl⟩
   ·(repeat first | exact LE.nil _ | refine LE.unk _ _ ?_ | refine LE.eq _ _ _ rfl ?_)
   ·dsimp only
    refine I1 (n := n) hz (fun jx hj => ?_) (fun jx hl hn => ?_)
    ·simp only [List.map_cons, List.map_nil, List.mem_cons, List.not_mem_nil, or_false] at hj
     rcases hj with rfl | rfl <;> (simp (disch := omega) only [↓app0, ↓appC, ↓updS, ↓updN, ↓hpS, ↓hpN]) <;> first | rfl | assumption | ((refine congrArg (fun z => some (Blk.mk z 1 290)) ?_; unfold sched; rw [show (48 : Nat) = j by omega]; done)) | ((refine congrArg (fun z => some (Blk.mk z 1 290)) ?_; rw [rnds_zero]; rfl; done))
    ·simp only [List.map_cons, List.map_nil, List.mem_cons, List.not_mem_nil, or_false, not_or] at hn
     (simp (disch := omega) only [↓app0, ↓appC, ↓updS, ↓updN, ↓hpS, ↓hpN])
   ·exact Nat.le_refl _
   intro ⟨i2, vb, m⟩ hI ih
   dsimp only at hI ⊢
   have hL2 : (sched ((F.drop off).take 64)).length = 64 := J1 (W0 ((F.drop off).take 64) 16) (G5 ((F.drop off).take 64) 16) 48
   generalize hr : rnds (sched ((F.drop off).take 64)) q i2 = r
   refine A7 (st := []) ?_
   refine br ?_ ?_ <;> intro h13_1
   ·(refine mem (by exact Q0) ⟨rfl, sd (by exact ⟨by exact Q2, by exact Q2⟩) ?_⟩)
    refine A4 ?_
    (refine mem (by exact Q0) ⟨rfl, sd (by exact ⟨by exact Q2, by exact Q2⟩) ?_⟩)
    refine A4 ?_
    (refine mem (by exact Q0) ⟨rfl, sd (by exact ⟨by exact Q2, by exact Q2⟩) ?_⟩)
    refine A4 ?_
    refine C8 (e127 _ _ (by decide)) rfl rfl rfl ?_
    refine C8 (e127 _ _ (by decide)) rfl rfl rfl ?_
    refine C8 (e127 _ _ (by decide)) rfl rfl rfl ?_
    (refine mem (by exact Q0) ⟨rfl, sd (by exact ⟨by exact Q2, by exact Q2⟩) ?_⟩)
    refine A4 ?_
    (refine mem (by exact Q0) ⟨rfl, sd (by exact ⟨by exact Q2, by exact Q2⟩) ?_⟩)
    refine A4 ?_
    (refine sd (by exact Q2) (D7 (by first | rfl | assumption | (exact B9 uT 0 (by show _ < 64; omega))) rfl ?_))
    (refine mem (by exact Q0) ⟨rfl, sd (by exact ⟨by exact Q2, by exact Q2⟩) ?_⟩)
    refine A4 ?_ (by exact Q0) (by exact B9 uV 0 (by omega)) (by rfl)
    refine C8 (e127 _ _ (by decide)) rfl rfl rfl ?_
    refine C8 (e127 _ _ (by decide)) rfl rfl rfl ?_
    refine C8 (e127 _ _ (by decide)) rfl rfl rfl ?_
    (refine mem (by exact Q0) ⟨rfl, sd (by exact ⟨by exact Q2, by exact Q2⟩) ?_⟩)
    refine A4 ?_
    (refine mem (by exact Q0) ⟨rfl, sd (by exact ⟨by exact Q2, by exact Q2⟩) ?_⟩)
    refine A4 ?_
    (refine mem (by exact Q0) ⟨rfl, sd (by exact ⟨by exact Q2, by exact Q2⟩) ?_⟩)
    refine A4 ?_
    (refine mem (by exact Q0) ⟨rfl, sd (by exact ⟨by exact Q2, by exact Q2⟩) ?_⟩)
    refine A4 ?_
    (refine mem (by exact Q0) ⟨rfl, sd (by exact ⟨by exact Q2, by exact Q2⟩) ?_⟩)
    refine A4 ?_
    (refine mem (by exact Q0) ⟨rfl, sd (by exact ⟨by exact Q2, by exact Q2⟩) ?_⟩)
    refine A4 ?_
    (refine mem (by exact Q0) ⟨rfl, sd (by exact ⟨by exact Q2, by exact Q2⟩) ?_⟩)
    refine A4 ?_
    (refine mem (by exact Q0) ⟨rfl, sd (by exact ⟨by exact Q2, by exact Q2⟩) ?_⟩)
    refine A4 ?_
    (refine mem (by exact Q0) ⟨rfl, sd (by exact ⟨by exact Q2, by exact Q2⟩) ?_⟩)
    refine A4 ?_
    (refine mem (by exact Q0) ⟨rfl, sd (by exact ⟨by exact Q2, by exact Q2⟩) ?_⟩)
    refine A4 ?_
    (refine mem (by exact Q0) ⟨rfl, sd (by exact ⟨by exact Q2, by exact Q2⟩) ?_⟩)
    refine A4 ?_
    refine D3 (es := [[.int _ _], [.int _ _], [.int _ _], [.int _ _], [.int _ _], [.int _ _], [.int _ _], [.int _ _]]) j4 kz kb rfl rfl ?_
    refine F6 ?_
    refine D6 ⟨by exact Q2, by exact Q2⟩ ?_
    exact C6 (ih (i2 + 1, m, m + 1) ⟨by dsimp only; omega, by dsimp only; omega, by dsimp only; omega, by dsimp only; omega⟩ (by dsimp only; omega)) (by (repeat first | exact LE.nil _ | refine LE.unk _ _ ?_ | refine LE.eq _ _ _ rfl ?_)) (by
     dsimp only
     refine I1 (n := n) hz (fun jx hj => ?_) (fun jx hl hn => ?_)
     ·simp only [List.map_cons, List.map_nil, List.mem_cons, List.not_mem_nil, or_false] at hj
      rcases hj with rfl | rfl <;> (simp (disch := omega) only [↓app0, ↓appC, ↓updS, ↓updN, ↓hpS, ↓hpN]) <;> first | rfl | assumption | ((refine congrArg (fun z => some (Blk.mk z 1 290)) ?_; rw [rnds_succ, hr, rnd_x]; (try simp only [Nat.zero_add, Nat.mul_one, Int.toNat_natCast]); rfl; done))
     ·simp only [List.map_cons, List.map_nil, List.mem_cons, List.not_mem_nil, or_false, not_or] at hn
      (simp (disch := omega) only [↓app0, ↓appC, ↓updS, ↓updN, ↓hpS, ↓hpN])) (Nat.le_refl _)
   ·refine A9 (fun (i3 : Nat) => [.view hb 0 8, .unk, .unk, .unk, .unk, .unk, .unk, .unk, .unk, .unk, .unk, .view vb 0 8, .unk, .unk, .unk, .unk, .unk, .int .i64 i3]) (fun (i3 : Nat) => app [(hb, some ⟨(addW q (rnds (sched ((F.drop off).take 64)) q 64) i3).map uV, 1, 290⟩), (vb, some ⟨(rnds (sched ((F.drop off).take 64)) q 64).L.map uV, 1, 290⟩)] h) (fun (i3 : Nat) => m) (fun (i3 : Nat) => i3 ≤ 8) (fun (i3 : Nat) => 8 - i3) 0 ?_ ?_ ?_ ?_ ?_
    ·exact Nat.zero_le _
    ·(repeat first | exact LE.nil _ | refine LE.unk _ _ ?_ | refine LE.eq _ _ _ rfl ?_)
    ·refine I1 (n := n) hz (fun jx hj => ?_) (fun jx hl hn => ?_)
     ·simp only [List.map_cons, List.map_nil, List.mem_cons, List.not_mem_nil, or_false] at hj
      rcases hj with rfl | rfl <;> (simp (disch := omega) only [↓app0, ↓appC, ↓updS, ↓updN, ↓hpS, ↓hpN]) <;> first | rfl | assumption | exact k1.trans (by rw [addW_zero]) | ((refine congrArg (fun z => some (Blk.mk z 1 290)) ?_; rw [← hr, show i2 = 64 by omega]; done))
     ·simp only [List.map_cons, List.map_nil, List.mem_cons, List.not_mem_nil, or_false, not_or] at hn
      (simp (disch := omega) only [↓app0, ↓appC, ↓updS, ↓updN, ↓hpS, ↓hpN])
    ·exact Nat.le_refl _
    intro i3 hI ih
    have hL3 := K7 q (rnds (sched ((F.drop off).take 64)) q 64) i3
    have hL4 : (rnds (sched ((F.drop off).take 64)) q 64).L.length = 8 := rfl
    refine A7 (st := []) ?_
    refine br ?_ ?_ <;> intro h21_1
    ·(refine mem (by exact Q0) ⟨rfl, sd (by exact ⟨by exact Q2, by exact Q2⟩) ?_⟩)
     refine A4 ?_ (by exact Q0) (by exact B9 uV 0 (by omega)) (by rfl)
     (refine mem (by exact Q0) ⟨rfl, sd (by exact ⟨by exact Q2, by exact Q2⟩) ?_⟩)
     refine A4 ?_ (by exact Q0) (by exact B9 uV 0 (by omega)) (by rfl)
     (refine mem (by exact Q0) ⟨rfl, sd (by exact ⟨by exact Q2, by exact Q2⟩) ?_⟩)
     (apply est (u := .int .u32 _) j3; exact Q0; exact B9 uV 0 (by omega); exact j4; exact kb; rfl)
     refine F6 ?_
     refine D6 ⟨by exact Q2, by exact Q2⟩ ?_
     exact C6 (ih (i3 + 1) (by omega) (by omega)) (by (repeat first | exact LE.nil _ | refine LE.unk _ _ ?_ | refine LE.eq _ _ _ rfl ?_)) (by
      refine I1 (n := n) hz (fun jx hj => ?_) (fun jx hl hn => ?_)
      ·simp only [List.map_cons, List.map_nil, List.mem_cons, List.not_mem_nil, or_false] at hj
       rcases hj with rfl | rfl <;> (simp (disch := omega) only [↓app0, ↓appC, ↓updS, ↓updN, ↓hpS, ↓hpN]) <;> first | rfl | assumption | ((refine congrArg (fun z => some (Blk.mk z 1 290)) ?_; rw [addW_succ, List.map_set]; (try simp only [Nat.zero_add, Nat.mul_one, Int.toNat_natCast]); rfl; done))
      ·simp only [List.map_cons, List.map_nil, List.mem_cons, List.not_mem_nil, or_false, not_or] at hn
       (simp (disch := omega) only [↓app0, ↓appC, ↓updS, ↓updN, ↓hpS, ↓hpN])) (Nat.le_refl _)
    ·exact G9 rfl rfl (leWr (by
      intro j hj
      simp only [List.map_cons, List.map_nil, List.mem_cons, List.not_mem_nil, or_false] at hj
      rcases hj with rfl <;> (simp (disch := omega) only [↓app0, ↓appC, ↓updS, ↓updN, ↓hpS, ↓hpN]) <;> first | rfl | ((refine congrArg (fun z => some (Blk.mk z 1 290)) ?_; rw [show i3 = 8 by omega, addW_end]; rfl; done))) (fun j hj hn => by
      simp only [List.map_cons, List.map_nil, List.mem_cons, List.not_mem_nil, or_false, not_or] at hn
      simp (disch := omega) only [↓app0, ↓appC, ↓updS, ↓updN, ↓hpS, ↓hpN])) (by omega)
open Go.V
set_option linter.unusedVariables false
set_option linter.unusedSimpArgs false
set_option maxRecDepth 20000
set_option maxHeartbeats 4000000
def ws4 (x : Int) : List Int := [IntKind.u8.wrap (sr x 24), IntKind.u8.wrap (sr x 16), IntKind.u8.wrap (sr x 8), IntKind.u8.wrap x]
def outL (q : W8) : Nat → List Int
 | 0 => []
 | i + 1 => outL q i ++ ws4 (q.L.getD i 0)
theorem outL_zero (q : W8) : outL q 0 = [] := rfl
theorem T9 (q : W8) (i : Nat) : outL q (i + 1) = outL q i ++ ws4 (q.L.getD i 0) := rfl
theorem F2 (q : W8) : ∀ i, (outL q i).length = 4 * i
 | 0 => rfl
 | i + 1 => by rw [T9, List.length_append, F2 q i]; rfl
def bt8 (x i : Int) : Int := IntKind.u8.wrap (x.fdiv (2 ^ (min (IntKind.u64.wrap (8 * i)).toNat IntKind.i64.bits)))
def lenL (x : Int) : Nat → List Int
 | 0 => []
 | j + 1 => lenL x j ++ [bt8 x (7 - (j : Int))]
theorem lenL_zero (x : Int) : lenL x 0 = [] := rfl
theorem U0 (x : Int) (j : Nat) : lenL x (j + 1) = lenL x j ++ [bt8 x (7 - (j : Int))] := rfl
theorem D0 (x : Int) : ∀ j, (lenL x j).length = j
 | 0 => rfl
 | j + 1 => by rw [U0, List.length_append, D0 x j]; rfl
def padB (B : List Int) : List Int := B ++ 128 :: List.replicate ((120 - (B.length + 1) % 64) % 64) 0
def shaB (B : List Int) : List Int := padB B ++ lenL (8 * (B.length : Int)) 8
def hashB (B : List Int) : ByteArray := strOw (outL (blks (shaB B) ((shaB B).length / 64)) 8)
attribute [irreducible] outL lenL
theorem rowsBf (fr : Bool) (B : List Int) : ((B.map bT).map fun r => r.map (T.toV fr)) = B.map bV := by rw [List.map_map]; rfl
theorem K8 (fr : Bool) (B : List Int) : ∀ c ∈ ((B.map bT).map fun r => r.map (T.toV fr)), c.length = 1 := by
 rw [rowsBf]; intro c hc; obtain ⟨r, _, rfl⟩ := List.mem_map.1 hc; rfl
theorem e103 (nn : Bool) (B : List Int) (hL : B.length ≤ 1000000) : Pure En 226 [.one (.sl nn (B.map bT))] [.one (.str (hashB B))] := by
 have hraw : (0 + ((B.map bT).map fun x => x.map (T.toV false)).length + 1) = B.length + 1 := by simp
 have hl1 : (B.map bT).length = B.length := List.length_map ..
 have e1 : ((B.map bT).map fun x => x.map (T.toV false)) ++ [[V.int .u8 128]] = (B ++ [128]).map bV := by rw [rowsBf, List.map_append]; rfl
 refine Pure.of_ev (st := []) Tryz.func226 rfl kb ?_
 refine D3 (es := [[.int _ _], [.int _ _], [.int _ _], [.int _ _], [.int _ _], [.int _ _], [.int _ _], [.int _ _]]) j4 kz kb rfl rfl ?_
 refine D3 (es := []) j4 kz kb rfl rfl ?_
 (apply eap (s' := 1) rfl rfl; exact Q0; exact j2; rfl; exact j2; exact kz; rfl; exact (K8 false B); (simp only [List.length_map]; omega); (simp only [List.length_map]; omega))
 refine D3 (es := [[.int _ _]]) j4 kz kb rfl rfl ?_
 (apply eap (s' := 1) (es := [[.int .u8 128]]) rfl rfl; exact Q0; exact j2; (first | rfl | (simp)); exact j2; exact kz; (apply E0 rfl; exact Q0; exact Nat.le_refl _; rfl); (intro c hc; rw [List.mem_singleton] at hc; subst hc; rfl); (simp only [List.length_map, List.length_singleton]; omega); (simp only [List.length_map, List.length_singleton]; omega))
 refine A9 (fun (a : List Int × Nat × Nat × Nat × Nat) => [.sl false nn (B.map bT), .unk, .unk, .view 0 0 8, .view a.2.2.1 0 a.2.1]) (fun (a : List Int × Nat × Nat × Nat × Nat) => hp [(0, ⟨q0.L.map uV, 1, 290⟩), (a.2.2.1, ⟨a.1.map bV, 1, 5⟩)]) (fun (a : List Int × Nat × Nat × Nat × Nat) => a.2.2.2.1) (fun (a : List Int × Nat × Nat × Nat × Nat) => a.1.length = a.2.1 ∧ (0 < a.2.2.1 ∧ a.2.2.1 < a.2.2.2.1) ∧ B.length < a.2.1 ∧ a.2.1 + (120 - a.2.1 % 64) % 64 ≤ B.length + 100 ∧ a.1 = B ++ 128 :: List.replicate a.2.2.2.2 0 ∧ a.2.2.2.2 + (120 - a.2.1 % 64) % 64 = (120 - (B.length + 1) % 64) % 64) (fun (a : List Int × Nat × Nat × Nat × Nat) => (120 - a.2.1 % 64) % 64) (B ++ [128], (0 + ((B.map bT).map fun x => x.map (T.toV false)).length + 1), 4, 5, 0) ?_ ?_ ?_ ?_ ?_
 ·exact ⟨by dsimp only; rw [hraw, List.length_append]; rfl, ⟨by dsimp only; decide, by dsimp only; decide⟩, by dsimp only; omega, by dsimp only; omega, rfl, by dsimp only; rw [hraw]; omega⟩
 ·(repeat first | exact LE.nil _ | refine LE.unk _ _ ?_ | refine LE.eq _ _ _ rfl ?_)
 ·dsimp only
  (repeat first | exact B8 | (refine C0 ?_ ?_; (first | exact Q0 | (first | (focus ((simp (disch := omega) only [↓app0, ↓appC, ↓updS, ↓updN, ↓hpS, ↓hpN]); exact congrArg (fun z => some (Blk.mk z 1 5)) e1))))))
 ·exact Nat.le_refl _
 intro ⟨L, ln, id, m, z⟩ hI ih
 dsimp only at hI ⊢
 have hP := hI
 refine A7 (st := []) ?_
 refine sd (by exact L2) ?_
 refine br ?_ ?_ <;> intro h3_3
 ·refine D3 (es := [[.int _ _]]) j4 kz kb rfl rfl ?_
  (apply eap (s' := 1) (es := [[.int _ _]]) rfl rfl; exact Q0; exact j2; (first | rfl | omega | (rw [List.length_map]; omega) | (rw [List.length_map, List.length_append, D0]; omega) | (rw [List.length_map, F2]; omega)); exact j2; exact kz; exact H5; exact Q6; exact Q28; exact Q28)
  rw [tm64] at h3_3
  exact C6 (ih (L ++ [0], ln + 1, m + 1, m + 2, z + 1) ⟨by dsimp only; rw [List.length_append, hI.1]; rfl, by dsimp only; omega, by dsimp only; omega, by dsimp only; omega, by dsimp only; rw [hI.2.2.2.2.1, List.append_assoc, List.cons_append, List.replicate_succ'], by dsimp only; omega⟩ (by dsimp only; omega)) (by (repeat first | exact LE.nil _ | refine LE.unk _ _ ?_ | refine LE.eq _ _ _ rfl ?_)) (by dsimp only; (repeat first | exact B8 | (refine C0 ?_ ?_; (first | exact Q0 | (first | (focus ((simp (disch := omega) only [↓app0, ↓appC, ↓updS, ↓updN, ↓hpS, ↓hpN]); exact congrArg (fun z => some (Blk.mk z 1 5)) e1)) | (focus ((simp (disch := omega) only [↓app0, ↓appC, ↓updS, ↓updN, ↓hpS, ↓hpN]); exact congrArg (fun z => some (Blk.mk z 1 5)) (List.map_append (f := bV) (l₁ := L) (l₂ := [0])).symm))))))) (Nat.le_refl _)
 ·refine A9 (fun (a : Int × Nat × Nat × Nat) => [.sl false nn (B.map bT), .unk, .unk, .view 0 0 8, .view a.2.2.1 0 a.2.1, .int .i64 a.1]) (fun (a : Int × Nat × Nat × Nat) => hp [(0, ⟨q0.L.map uV, 1, 290⟩), (a.2.2.1, ⟨(L ++ lenL (8 * ((B.map bT).length : Int)) (7 - a.1).toNat).map bV, 1, 5⟩)]) (fun (a : Int × Nat × Nat × Nat) => a.2.2.2) (fun (a : Int × Nat × Nat × Nat) => (-1 ≤ a.1 ∧ a.1 ≤ 7) ∧ (0 < a.2.2.1 ∧ a.2.2.1 < a.2.2.2) ∧ a.2.1 = ln + (7 - a.1).toNat) (fun (a : Int × Nat × Nat × Nat) => (a.1 + 1).toNat) (7, ln, id, m) ?_ ?_ ?_ ?_ ?_
  ·exact ⟨by dsimp only; omega, by dsimp only; omega, rfl⟩
  ·(repeat first | exact LE.nil _ | refine LE.unk _ _ ?_ | refine LE.eq _ _ _ rfl ?_)
  ·dsimp only
   (repeat first | exact B8 | (refine C0 ?_ ?_; (first | exact Q0 | (first | (focus ((simp (disch := omega) only [↓app0, ↓appC, ↓updS, ↓updN, ↓hpS, ↓hpN]); exact congrArg (fun z => some (Blk.mk (List.map bV z) 1 5)) (show L = L ++ lenL _ 0 by rw [lenL_zero, List.append_nil])))))))
  ·exact Nat.le_refl _
  intro ⟨i, ln1, id1, m1⟩ hI ih
  dsimp only at hI ⊢
  have hQ := hI
  refine A7 (st := []) ?_
  refine br ?_ ?_ <;> intro h6_1
  ·refine D6 ⟨by exact L2, by exact L2⟩ ?_
   refine D6 ⟨by exact L2, by exact L2⟩ ?_
   refine sd (by exact L2) ?_
   refine D3 (es := [[.int _ _]]) j4 kz kb rfl rfl ?_
   (apply eap (s' := 1) (es := [[.int _ _]]) rfl rfl; exact Q0; exact j2; (first | rfl | omega | (rw [List.length_map]; omega) | (rw [List.length_map, List.length_append, D0]; omega) | (rw [List.length_map, F2]; omega)); exact j2; exact kz; exact H5; exact Q6; exact Q28; exact Q28)
   refine D6 ⟨by exact L2, by exact L2⟩ ?_
   have hk : (7 - (i - 1)).toNat = (7 - i).toNat + 1 := by omega
   have hi7 : 7 - (((7 - i).toNat : Nat) : Int) = i := by omega
   have e2 : (L ++ lenL (8 * ((B.map bT).length : Int)) (7 - i).toNat).map bV ++ [[.int .u8 (bt8 (8 * ((B.map bT).length : Int)) i)]] = (L ++ lenL (8 * ((B.map bT).length : Int)) (7 - (i - 1)).toNat).map bV := by
    rw [hk, U0, hi7, ← List.append_assoc, List.map_append (l₂ := [bt8 (8 * ((B.map bT).length : Int)) i])]; rfl
   exact C6 (ih (i - 1, ln1 + 1, m1 + 1, m1 + 2) ⟨by dsimp only; omega, by dsimp only; omega, by dsimp only; omega⟩ (by dsimp only; omega)) (by (repeat first | exact LE.nil _ | refine LE.unk _ _ ?_ | refine LE.eq _ _ _ rfl ?_)) (by dsimp only; (repeat first | exact B8 | (refine C0 ?_ ?_; (first | exact Q0 | (first | (focus ((simp (disch := omega) only [↓app0, ↓appC, ↓updS, ↓updN, ↓hpS, ↓hpN]); exact congrArg (fun z => some (Blk.mk z 1 5)) e2))))))) (Nat.le_refl _)
  ·refine C8 e117 rfl rfl rfl ?_
   refine A9 (fun (a : Nat × Nat) => [.sl false nn (B.map bT), .unk, .unk, .view 0 0 8, .view id1 0 ln1, .unk, .sl true true (roundW.map fun x => [.int .u32 x]), .int .i64 a.1]) (fun (a : Nat × Nat) => hp [(0, ⟨(blks (L ++ lenL (8 * ((B.map bT).length : Int)) 8) (a.1 / 64)).L.map uV, 1, 290⟩), (id1, ⟨(L ++ lenL (8 * ((B.map bT).length : Int)) 8).map bV, 1, 5⟩)]) (fun (a : Nat × Nat) => a.2) (fun (a : Nat × Nat) => a.1 % 64 = 0 ∧ a.1 ≤ ln1 ∧ id1 < a.2) (fun (a : Nat × Nat) => ln1 - a.1) (0, m1) ?_ ?_ ?_ ?_ ?_
   ·exact ⟨rfl, Nat.zero_le _, hQ.2.1.2⟩
   ·(repeat first | exact LE.nil _ | refine LE.unk _ _ ?_ | refine LE.eq _ _ _ rfl ?_)
   ·dsimp only
    (repeat first | exact B8 | (refine C0 ?_ ?_; (first | exact Q0 | (first | (focus ((simp (disch := omega) only [↓app0, ↓appC, ↓updS, ↓updN, ↓hpS, ↓hpN]); exact congrArg (fun z => some (Blk.mk (List.map uV (W8.L z)) 1 290)) (show q0 = _ by rw [Nat.zero_div, T5]))) | (focus ((simp (disch := omega) only [↓app0, ↓appC, ↓updS, ↓updN, ↓hpS, ↓hpN]); exact congrArg (fun z => some (Blk.mk (List.map bV (L ++ lenL _ z)) 1 5)) (show (7 - i).toNat = 8 by omega)))))))
   ·exact Nat.le_refl _
   intro ⟨off, m2⟩ hI ih
   dsimp only at hI ⊢
   have hR := hI
   have h64 : ln1 % 64 = 0 := by rw [tm64] at h3_3; omega
   refine A7 (st := []) ?_
   refine br ?_ ?_ <;> intro h11_3
   ·refine D6 ⟨by exact L2, by exact L2⟩ ?_
    (apply eslv j3; exact Q0; exact j3; exact L2; exact L2; exact L2)
    refine N3 (e118 (blks (L ++ lenL (8 * ((B.map bT).length : Int)) 8) (off / 64)) (L ++ lenL (8 * ((B.map bT).length : Int)) 8) true true (hb := 0) (ab := id1) (off := off) ?_ ?_ ?_ ?_ ?_ ?_) rfl rfl (by show [V.view 0 0 8, V.view id1 (0 + ((off : Nat) : Int).toNat) ((((off : Nat) : Int) + 64).toNat - ((off : Nat) : Int).toNat), .sl true true (roundW.map uT)] = _; rw [Nat.zero_add, show (((off : Nat) : Int) + 64).toNat - ((off : Nat) : Int).toNat = 64 by omega, Int.toNat_natCast]) ?_
    ·(first | omega | (rw [List.length_append, D0]; omega) | exact Q0)
    ·(first | omega | (rw [List.length_append, D0]; omega) | exact Q0)
    ·(first | omega | (rw [List.length_append, D0]; omega) | exact Q0)
    ·(first | omega | (rw [List.length_append, D0]; omega) | exact Q0)
    ·(first | omega | (rw [List.length_append, D0]; omega) | exact Q0)
    ·(first | omega | (rw [List.length_append, D0]; omega) | exact Q0)
    refine D6 ⟨by exact L2, by exact L2⟩ ?_
    have e3 : blk8 (blks (L ++ lenL (8 * ((B.map bT).length : Int)) 8) (off / 64)) (((L ++ lenL (8 * ((B.map bT).length : Int)) 8).drop off).take 64) = blks (L ++ lenL (8 * ((B.map bT).length : Int)) 8) ((off + 64) / 64) := by
     rw [show (off + 64) / 64 = off / 64 + 1 by omega, T6, show 64 * (off / 64) = off by omega]
    exact C6 (ih (off + 64, m2 + 3 + 64) ⟨by dsimp only; omega, by dsimp only; omega, by dsimp only; omega⟩ (by dsimp only; omega)) (by (repeat first | exact LE.nil _ | refine LE.unk _ _ ?_ | refine LE.eq _ _ _ rfl ?_)) (by dsimp only; (repeat first | exact B8 | (refine C0 ?_ ?_; (first | exact Q0 | (first | (focus ((simp (disch := omega) only [↓app0, ↓appC, ↓updS, ↓updN, ↓hpS, ↓hpN]); exact congrArg (fun z => some (Blk.mk (List.map uV (W8.L z)) 1 290)) e3))))))) (Nat.le_refl _)
   ·refine D3 (es := []) j4 kz kb rfl rfl ?_
    refine A9 (fun (a : Nat × Nat × Nat) => [.unk, .unk, .unk, .view 0 0 8, .unk, .unk, .unk, .unk, .view a.2.1 0 (4 * a.1), .int .i64 a.1]) (fun (a : Nat × Nat × Nat) => hp [(0, ⟨(blks (L ++ lenL (8 * ((B.map bT).length : Int)) 8) (off / 64)).L.map uV, 1, 290⟩), (a.2.1, ⟨(outL (blks (L ++ lenL (8 * ((B.map bT).length : Int)) 8) (off / 64)) a.1).map bV, 1, 5⟩)]) (fun (a : Nat × Nat × Nat) => a.2.2) (fun (a : Nat × Nat × Nat) => a.1 ≤ 8 ∧ 0 < a.2.1 ∧ a.2.1 < a.2.2) (fun (a : Nat × Nat × Nat) => 8 - a.1) (0, m2, m2 + 1) ?_ ?_ ?_ ?_ ?_
    ·exact ⟨Nat.zero_le _, by dsimp only; omega, by dsimp only; omega⟩
    ·(repeat first | exact LE.nil _ | refine LE.unk _ _ ?_ | refine LE.eq _ _ _ rfl ?_)
    ·dsimp only
     (repeat first | exact B8 | (refine C0 ?_ ?_; (first | exact Q0 | (first | (focus ((simp (disch := omega) only [↓app0, ↓appC, ↓updS, ↓updN, ↓hpS, ↓hpN]); exact congrArg (fun z => some (Blk.mk (List.map bV z) 1 5)) (show [] = outL _ 0 by rw [outL_zero])))))))
    ·exact Nat.le_refl _
    intro ⟨i9, ob, m3⟩ hI ih
    dsimp only at hI ⊢
    refine A7 (st := []) ?_
    refine br ?_ ?_ <;> intro h16_1
    ·(refine mem (by exact Q0) ⟨rfl, sd (by exact ⟨by exact L2, by exact L2⟩) ?_⟩)
     refine A4 ?_ (by exact Q0) (by exact B9 uV 0 (show _ < 8 by omega)) (by rfl)
     refine sd (by exact L2) ?_
     (refine mem (by exact Q0) ⟨rfl, sd (by exact ⟨by exact L2, by exact L2⟩) ?_⟩)
     refine A4 ?_ (by exact Q0) (by exact B9 uV 0 (show _ < 8 by omega)) (by rfl)
     refine sd (by exact L2) ?_
     (refine mem (by exact Q0) ⟨rfl, sd (by exact ⟨by exact L2, by exact L2⟩) ?_⟩)
     refine A4 ?_ (by exact Q0) (by exact B9 uV 0 (show _ < 8 by omega)) (by rfl)
     refine sd (by exact L2) ?_
     (refine mem (by exact Q0) ⟨rfl, sd (by exact ⟨by exact L2, by exact L2⟩) ?_⟩)
     refine A4 ?_ (by exact Q0) (by exact B9 uV 0 (show _ < 8 by omega)) (by rfl)
     refine D3 (es := [[.int _ _], [.int _ _], [.int _ _], [.int _ _]]) j4 kz kb rfl rfl ?_
     (apply eap (s' := 1) (es := [[.int _ _], [.int _ _], [.int _ _], [.int _ _]]) rfl rfl; exact Q0; exact j2; (first | rfl | omega | (rw [List.length_map]; omega) | (rw [List.length_map, List.length_append, D0]; omega) | (rw [List.length_map, F2]; omega)); exact j2; exact kz; exact H5; exact Q6; exact Q28; exact Q28)
     refine F6 ?_
     refine D6 ⟨by exact L2, by exact L2⟩ ?_
     have e4 : (outL (blks (L ++ lenL (8 * ((B.map bT).length : Int)) 8) (off / 64)) i9).map bV ++ (ws4 ((blks (L ++ lenL (8 * ((B.map bT).length : Int)) 8) (off / 64)).L.getD (0 + ((i9 : Nat) : Int).toNat) 0)).map bV = (outL (blks (L ++ lenL (8 * ((B.map bT).length : Int)) 8) (off / 64)) (i9 + 1)).map bV := by
      rw [T9, List.map_append, Nat.zero_add, Int.toNat_natCast]
     exact C6 (ih (i9 + 1, m3 + 1, m3 + 2) ⟨by dsimp only; omega, by dsimp only; omega, by dsimp only; omega⟩ (by dsimp only; omega)) (by (repeat first | exact LE.nil _ | refine LE.unk _ _ ?_ | refine LE.eq _ _ _ rfl ?_)) (by dsimp only; (repeat first | exact B8 | (refine C0 ?_ ?_; (first | exact Q0 | (first | (focus ((simp (disch := omega) only [↓app0, ↓appC, ↓updS, ↓updN, ↓hpS, ↓hpN]); exact congrArg (fun z => some (Blk.mk z 1 5)) e4))))))) (Nat.le_refl _)
    ·(apply esg j4; (apply E0 rfl; exact Q0; (rw [List.length_map, F2]; omega); rfl); (intro s e; cases e); exact takeAll (by rw [F2]))
     have hs : strOw (outL (blks (L ++ lenL (8 * ((B.map bT).length : Int)) 8) (off / 64)) i9) = hashB B := by
      rw [tm64] at h3_3
      have hz : L = padB B := by rw [hP.2.2.2.2.1]; unfold padB; rw [show z = (120 - (B.length + 1) % 64) % 64 by omega]
      have hF : (L ++ lenL (8 * ((B.map bT).length : Int)) 8) = shaB B := by unfold shaB; rw [hz, hl1]
      have hk : off / 64 = (shaB B).length / 64 := by rw [← hF, List.length_append, D0]; omega
      rw [show i9 = 8 by omega, hk, hF]; rfl
     rw [← hs]; exact E4 rfl rfl
open Go.V
set_option linter.unusedVariables false
set_option linter.unusedSimpArgs false
theorem sh8_eq (y : Int) : sh8 y = y.fdiv 256 := rfl
theorem Y4 (x : Int) : bt8 x 0 = IntKind.u8.wrap x := by
 have e : min (IntKind.u64.wrap (8 * 0)).toNat IntKind.i64.bits = 0 := by decide
 unfold bt8; rw [e]; exact congrArg _ (Int.fdiv_one x)
theorem u64_8 (i : Nat) (h : i < 8) : min (IntKind.u64.wrap (8 * (i : Int))).toNat IntKind.i64.bits = 8 * i := by
 have e : IntKind.u64.wrap (8 * (i : Int)) = (8 * (i : Int)) % (2 ^ 64 : Int) := rfl
 rw [e, Int.emod_eq_of_lt (by omega) (by omega)]
 have : IntKind.i64.bits = 64 := rfl
 omega
theorem bt8_sh (x : Int) (i : Nat) (h : i + 1 < 8) : bt8 (sh8 x) (i : Int) = bt8 x ((i : Int) + 1) := by
 have e1 := u64_8 i (by omega)
 have e2 := u64_8 (i + 1) h
 rw [show ((i : Int) + 1) = ((i + 1 : Nat) : Int) from rfl]
 unfold bt8
 have p1 : (0 : Int) ≤ 2 ^ (8 * i) := Int.le_of_lt (Int.pow_pos (by decide))
 have p2 : (0 : Int) ≤ 2 ^ (8 * (i + 1)) := Int.le_of_lt (Int.pow_pos (by decide))
 rw [e1, e2, sh8_eq, Int.fdiv_eq_ediv_of_nonneg _ p1, Int.fdiv_eq_ediv_of_nonneg _ p2, Int.fdiv_eq_ediv_of_nonneg _ (by decide), Int.ediv_ediv_of_nonneg (by decide), show 8 * (i + 1) = 8 + 8 * i by omega, Int.pow_add]
 rfl
def topL (x : Int) (m : Nat) : Nat → List Int
 | 0 => []
 | j + 1 => topL x m j ++ [bt8 x ((m : Int) - 1 - (j : Int))]
theorem topL_sh (x : Int) (m : Nat) (hm : m + 1 ≤ 8) : ∀ j, j ≤ m → topL (sh8 x) m j = topL x (m + 1) j
 | 0, _ => rfl
 | j + 1, h => by
  have e : bt8 (sh8 x) (((m : Int) - 1 - (j : Int))) = bt8 x (((m + 1 : Nat) : Int) - 1 - (j : Int)) := by
   rw [show ((m : Int) - 1 - (j : Int)) = ((m - 1 - j : Nat) : Int) by omega, bt8_sh x _ (by omega)]
   congr 1; omega
  unfold topL
  rw [topL_sh x m hm j (by omega), e]
theorem K9 (m : Nat) : m ≤ 8 → ∀ x, numL x m = topL x m m := by
 induction m with
 | zero => intro _ x; with_unfolding_all rfl
 | succ k ih =>
  intro hm x
  have e : topL x (k + 1) (k + 1) = topL x (k + 1) k ++ [bt8 x (((k + 1 : Nat) : Int) - 1 - (k : Int))] := rfl
  have z : ((k + 1 : Nat) : Int) - 1 - (k : Int) = 0 := by omega
  rw [L7, ih (by omega) (sh8 x), topL_sh x k hm k (Nat.le_refl _), e, z, Y4]
theorem lenL_top (x : Int) : ∀ j, j ≤ 8 → lenL x j = topL x 8 j
 | 0, _ => by rw [lenL_zero]; rfl
 | j + 1, h => by
  have e : topL x 8 (j + 1) = topL x 8 j ++ [bt8 x (((8 : Nat) : Int) - 1 - (j : Int))] := rfl
  rw [U0, lenL_top x j (by omega), e]
  congr 2
theorem lenL_numL (x : Int) : lenL x 8 = numL x 8 := by rw [lenL_top x 8 (Nat.le_refl _), K9 8 (Nat.le_refl _)]
theorem ws4_numL (x : Int) (h0 : 0 ≤ x) (h1 : x < 4294967296) : ws4 x = numL (IntKind.i64.wrap x) 4 := by
 have e : IntKind.i64.wrap x = x := wrap_i64 (by omega) (by omega)
 rw [e, K9 4 (by decide)]
 have e4 : topL x 4 4 = [bt8 x 3, bt8 x 2, bt8 x 1, bt8 x 0] := rfl
 rw [e4, Y4]
 rfl
def inW (x : Int) : Prop := 0 ≤ x ∧ x < 4294967296
theorem ad_in (a b : Int) : inW (ad a b) := by
 have e : ad a b = (a + b) % (2 ^ 32 : Int) := rfl
 unfold inW; rw [e]; omega
theorem blks_in (F : List Int) (k i : Nat) : inW ((blks F k).L.getD i 0) := by
 have z : inW 0 := by unfold inW; omega
 cases k with
 | zero =>
  rw [T5]
  unfold q0 W8.L
  match i with
  | 0 | 1 | 2 | 3 | 4 | 5 | 6 | 7 => unfold inW; simp
  | i + 8 => exact z
 | succ k =>
  rw [T6]
  unfold blk8 W8.L
  match i with
  | 0 | 1 | 2 | 3 | 4 | 5 | 6 | 7 => exact ad_in _ _
  | i + 8 => exact z
theorem B5 (a b : List Int) : strOw (a ++ b) = strOw a ++ strOw b := by
 apply ByteArray.ext
 simp [strOw]
theorem out_eq (F : List Int) (k : Nat) : ∀ i, strOw (outL (blks F k) i) = outS (blks F k) i
 | 0 => by rw [outL_zero, T7]; rfl
 | i + 1 => by
  have h := blks_in F k i
  rw [T9, T8, B5, out_eq F k i, ws4_numL _ h.1 h.2]
def bytes (l : List Int) : Prop := ∀ b ∈ l, 0 ≤ b ∧ b < 256
theorem L8 {l : List Int} (h : bytes l) : byt (strOw l) = l := by
 unfold byt strOw
 simp only [List.map_map]
 conv => rhs; rw [← List.map_id l]
 apply List.map_congr_left
 intro b hb
 have := h b hb
 simp only [Function.comp, id]
 have e : (UInt8.ofNat b.toNat).toNat = b.toNat := by
  rw [UInt8.toNat_ofNat']; omega
 rw [e]; omega
theorem J2 {a b : List Int} (ha : bytes a) (hb : bytes b) : bytes (a ++ b) := fun x hx => (List.mem_append.1 hx).elim (ha x) (hb x)
theorem u8_in (x : Int) : 0 ≤ IntKind.u8.wrap x ∧ IntKind.u8.wrap x < 256 := by
 have e : IntKind.u8.wrap x = x % (2 ^ 8 : Int) := rfl
 rw [e]; omega
theorem Y5 (x : Int) (m : Nat) : ∀ j, bytes (topL x m j)
 | 0 => fun b hb => nomatch hb
 | j + 1 => J2 (Y5 x m j) (fun b hb => by rw [List.mem_singleton] at hb; subst hb; exact u8_in _)
theorem O5 (x : Int) (m : Nat) (h : m ≤ 8) : bytes (numL x m) := by rw [K9 m h]; exact Y5 x m m
theorem U1 (s : ByteArray) : bytes (byt s) := fun b hb => by
 obtain ⟨x, _, rfl⟩ := List.mem_map.1 hb
 have := x.toNat_lt
 omega
theorem G6 (s : ByteArray) : strOw (byt s) = s := by
 apply ByteArray.ext
 unfold strOw byt
 apply Array.ext'
 simp only [List.map_map]
 conv => rhs; rw [← List.map_id s.data.toList]
 apply List.map_congr_left
 intro b _
 simp
theorem hash_eq {B : List Int} (hB : bytes B) : hashB B = sha (strOw B) := by
 have e1 : padB B = padL (strOw B) := by
  unfold padB padL
  rw [L8 hB, C3]
 have e2 : shaB B = shaF (strOw B) := by
  unfold shaB shaF
  rw [e1, lenL_numL, C3, L8 (O5 _ 8 (Nat.le_refl _))]
 unfold hashB sha
 rw [out_eq, e2]
theorem s103 (nn : Bool) (B : List Int) (hL : B.length ≤ 1000000) (hB : bytes B) : Pure En 226 [.one (.sl nn (B.map bT))] [.one (.str (sha (strOw B)))] := hash_eq hB ▸ e103 nn B hL
open Go.V
set_option linter.unusedVariables false
set_option linter.unusedSimpArgs false
set_option maxRecDepth 20000
set_option maxHeartbeats 4000000
theorem outS_size (q : W8) : ∀ i, (outS q i).size = 4 * i
 | 0 => by rw [T7]; rfl
 | i + 1 => by rw [T8, ByteArray.size_append, outS_size q i, C3, A5]; omega
noncomputable def Hs (t : ByteArray) : ByteArray := sha t
theorem E2 (t : ByteArray) : (Hs t).size = 32 := outS_size _ 8
theorem q45 (t : ByteArray) (h : t.size ≤ 1000000) : Pure En 190 [.one (.str t)] [.one (.str (Hs t))] := e45 t h
noncomputable def Nm (x : Int) (m : Nat) : ByteArray := strOw (numL x m)
theorem A6 (x : Int) (m : Nat) : (Nm x m).size = m := by unfold Nm; rw [C3, A5]
theorem q37 (x : Int) (m : Nat) (h : m ≤ 8) : Pure En 191 [.one (.int .i64 x), .one (.int .i64 m)] [.one (.str (Nm x m))] := e37 x m h
attribute [irreducible] Hs Nm
def lit1 : ByteArray := ⟨#[110, 111, 100, 101, 32, 107, 101, 121]⟩
def lit2 : ByteArray := ⟨#[114, 101, 112, 108, 121]⟩
noncomputable def mk (id : Int) (t : ByteArray) : ByteArray := (Hs (Hs (lit1 ++ Nm id 1) ++ t)).extract 0 8
structure An where
 kd : Int
 tk : Int
 hd : Int
 ex : Int
def An.T (a : An) : List T := [.int .i64 a.kd, .int .i64 a.tk, .int .i64 a.hd, .int .i64 a.ex]
def An.OK (a : An) : Prop := (1 ≤ a.kd ∧ a.kd ≤ 8) ∧ (0 ≤ a.tk ∧ a.tk ≤ 1000000) ∧ (-1 ≤ a.hd ∧ a.hd ≤ 255) ∧ (0 ≤ a.ex ∧ a.ex ≤ 2000000000)
instance (a : An) : Decidable a.OK := by unfold An.OK; infer_instance
noncomputable def atx (a : An) : ByteArray := Nm a.kd 1 ++ Nm a.tk 3 ++ Nm (a.hd + 1) 2 ++ Nm a.ex 4
structure Rp where
 nd : Int
 cl : Int
 st : Int
 an : An
 mac : ByteArray
def Rp.T (r : Rp) : List T := [.int .i64 r.nd, .int .i64 r.cl, .int .i64 r.st, .int .i64 r.an.kd, .int .i64 r.an.tk, .int .i64 r.an.hd, .int .i64 r.an.ex, .str r.mac]
noncomputable def rm (r : Rp) : ByteArray := mk r.nd (lit2 ++ Nm r.cl 1 ++ Nm r.st 2 ++ atx r.an)
def nodes (n : Int) : Prop := n = 1 ∨ n = 4 ∨ n = 7
instance (n : Int) : Decidable (nodes n) := by unfold nodes; infer_instance
theorem p39 (n : Int) : ∃ c : Int × Int, (c.2 = 0 ↔ nodes n) ∧ Pure En 139 [.one (.int .i64 n)] [.one (.int .i64 c.1), .one (.int .i64 c.2)] := by
 refine Pure.of_evX (st := []) Tryz.func139 rfl kb ?_
 refine br ?_ ?_ <;> intro h1_1
 ·refine br ?_ ?_ <;> intro h1_4
  ·refine br ?_ ?_ <;> intro h1_8
   ·exact ⟨(0, 4), by unfold nodes; dsimp only; omega, E4 rfl rfl⟩
   ·refine B7 ?_
    refine C2 ?_
    exact ⟨(IntKind.i64.wrap ((n - 1).tdiv 3), 0), by unfold nodes; dsimp only; omega, E4 rfl rfl⟩
  ·refine B7 ?_
   refine C2 ?_
   exact ⟨(IntKind.i64.wrap ((n - 1).tdiv 3), 0), by unfold nodes; dsimp only; omega, E4 rfl rfl⟩
 ·refine B7 ?_
  refine C2 ?_
  exact ⟨(IntKind.i64.wrap ((n - 1).tdiv 3), 0), by unfold nodes; dsimp only; omega, E4 rfl rfl⟩
theorem p22 (n : Int) : Pure En 63 [.one (.int .i64 n)] [.one (.bool (decide (nodes n)))] := by
 refine Pure.of_ev (st := []) Tryz.func63 rfl kb ?_
 refine eclX (p39 n) rfl j2 ?_
 rintro c h1_1
 try dsimp only at h1_1
 refine br ?_ ?_ <;> intro h2_1
 ·first | exact B4 rfl (h1_1.1 h2_1) | exact B3 rfl (fun e => h2_1 (h1_1.2 e))
 ·first | exact B4 rfl (h1_1.1 h2_1) | exact B3 rfl (fun e => h2_1 (h1_1.2 e))
def Rp.ok (r : Rp) : Prop := (0 ≤ r.nd ∧ r.nd ≤ 6) ∧ (0 ≤ r.cl ∧ r.cl ≤ 255) ∧ (1 ≤ r.st ∧ r.st ≤ 65535) ∧ r.an.OK
instance (r : Rp) : Decidable r.ok := by unfold Rp.ok; infer_instance
def Rp.OK (n : Int) (r : Rp) : Prop := nodes n ∧ r.ok ∧ r.nd < n ∧ r.mac = rm r
noncomputable instance (n : Int) (r : Rp) : Decidable (r.OK n) := Classical.propDecidable _
open Go.V
set_option linter.unusedVariables false
set_option linter.unusedSimpArgs false
set_option maxRecDepth 20000
theorem bt_ext {p : ByteArray} {a b i : Nat} (h : a + i < b) (hb : b ≤ p.size) : bt (p.extract a b) i = bt p (a + i) := by
 unfold bt
 rw [ByteArray.data_extract, Array.toList_extract, List.extract_eq_take_drop, List.getElem?_take_of_lt (by omega), List.getElem?_drop]
theorem P9 {p : ByteArray} {a b c d : Nat} (h : a + d ≤ b) : (p.extract a b).extract c d = p.extract (a + c) (a + d) := by
 rw [ByteArray.extract_extract]; congr 1; omega
theorem C5 {p : ByteArray} {a b : Nat} (hb : b ≤ p.size) : (p.extract a b).size = b - a := by
 rw [ByteArray.size_extract]; omega
theorem ext_all (p : ByteArray) : p.extract 0 p.size = p := ByteArray.extract_zero_size
theorem ext_nil (p : ByteArray) (a : Nat) : p.extract a a = ⟨#[]⟩ := ByteArray.extract_same
theorem size0 {p : ByteArray} (h : p.size = 0) : p = ⟨#[]⟩ := by
 have := p.extract_zero_size; rw [h] at this; rw [← this]; exact ByteArray.extract_same
def num (p : ByteArray) (a : Nat) : Nat → Int
 | 0 => 0
 | k + 1 => num p a k * 256 + bt p (a + k)
theorem F0 {p : ByteArray} {a b o : Nat} (hb : b ≤ p.size) : ∀ {k : Nat}, a + (o + k) ≤ b → num (p.extract a b) o k = num p (a + o) k
 | 0, _ => rfl
 | k + 1, h => by
  unfold num
  rw [F0 hb (by omega), bt_ext (by omega) hb, Nat.add_assoc]
theorem K3 (p : ByteArray) (a : Nat) : ∀ k, 0 ≤ num p a k
 | 0 => Int.le_refl _
 | k + 1 => by have := K3 p a k; have := U4 p (a + k); unfold num; omega
theorem num_1 (p : ByteArray) (a : Nat) : num p a 1 = bt p a := by unfold num num; rw [Nat.add_zero]; omega
theorem num_2 (p : ByteArray) (a : Nat) : num p a 2 = bt p a * 256 + bt p (a + 1) := by unfold num; rw [num_1]
theorem num1_le (p : ByteArray) (a : Nat) : num p a 1 ≤ 255 := by rw [num_1]; exact E7 _ _
theorem S0 (p : ByteArray) (a : Nat) : num p a 2 ≤ 65535 := by rw [num_2]; have := E7 p a; have := E7 p (a + 1); omega
theorem num4_le (p : ByteArray) (a : Nat) : num p a 4 ≤ 4294967295 := by
 have h1 := S0 p a; have := E7 p (a + 2); have := E7 p (a + 3)
 show (num p a 2 * 256 + bt p (a + 2)) * 256 + bt p (a + 3) ≤ _; omega
structure Rd where
 o : Nat
 b : Bool
namespace Rd
def few (p : ByteArray) (s : Rd) (n : Int) : Prop := s.b = true ∨ n > (p.size : Int) - s.o
instance dcN1 (p : ByteArray) (s : Rd) (n : Int) : Decidable (s.few p n) := by unfold few; infer_instance
def sk (p : ByteArray) (s : Rd) (n : Int) : Rd := if s.few p n then ⟨s.o, true⟩ else ⟨s.o + n.toNat, false⟩
def tk (p : ByteArray) (s : Rd) (n : Int) : ByteArray := if s.few p n then ⟨#[]⟩ else p.extract s.o (s.o + n.toNat)
def nm (p : ByteArray) (s : Rd) (k : Nat) : Int := if s.few p k then 0 else num p s.o k
def skz (p : ByteArray) (s : Rd) (k : Nat) : Rd := (s.sk p k).sk p (s.nm p k)
def tkz (p : ByteArray) (s : Rd) (k : Nat) : ByteArray := (s.sk p k).tk p (s.nm p k)
theorem sk_bad {p : ByteArray} {s : Rd} {n : Int} (h : s.b = true) : (s.sk p n).b = true := by unfold sk; rw [if_pos (.inl h)]
theorem skz_bad {p : ByteArray} {s : Rd} {k : Nat} (h : s.b = true) : (s.skz p k).b = true := sk_bad (sk_bad h)
theorem sk_ok {p : ByteArray} {o : Nat} {n : Nat} (h : o + n ≤ p.size) : Rd.sk p ⟨o, false⟩ n = ⟨o + n, false⟩ := by
 unfold sk; rw [if_neg (by unfold few; simp; omega)]; simp
theorem sk_no {p : ByteArray} {o : Nat} {n : Nat} (h : p.size < o + n) : Rd.sk p ⟨o, false⟩ n = ⟨o, true⟩ := by
 unfold sk; rw [if_pos (by unfold few; simp; omega)]
theorem tk_ok {p : ByteArray} {o : Nat} {n : Nat} (h : o + n ≤ p.size) : Rd.tk p ⟨o, false⟩ n = p.extract o (o + n) := by
 unfold tk; rw [if_neg (by unfold few; simp; omega)]; simp
theorem nm_ok {p : ByteArray} {o : Nat} {k : Nat} (h : o + k ≤ p.size) : Rd.nm p ⟨o, false⟩ k = num p o k := by
 unfold nm; rw [if_neg (by unfold few; simp; omega)]
theorem nm_0 (p : ByteArray) (s : Rd) (k : Nat) : 0 ≤ s.nm p k := by unfold nm; split; exact Int.le_refl _; exact K3 _ _ _
theorem nm_no {p : ByteArray} {s : Rd} {k : Nat} (h : s.few p k) : s.nm p k = 0 := if_pos h
theorem sk_le {p : ByteArray} {s : Rd} {n : Int} (h : s.o ≤ p.size) (hn : 0 ≤ n) : (s.sk p n).o ≤ p.size := by
 unfold sk
 by_cases q : s.few p n
 ·rw [if_pos q]; exact h
 ·rw [if_neg q]; simp only [few, not_or] at q; show s.o + n.toNat ≤ p.size; omega
theorem skz_le {p : ByteArray} {s : Rd} {k : Nat} (h : s.o ≤ p.size) : (s.skz p k).o ≤ p.size := sk_le (sk_le h (by omega)) (nm_0 _ _ _)
def done (p : ByteArray) (s : Rd) : Prop := s.b = false ∧ s.o = p.size
end Rd
end Go.Proofs.YteifdelnahccjaaGreatDoor
