import Derived.Lib.Bytealg
import Derived.ChangeArms
import Derived.DataReads
import Derived.Test.YtknnniaoboaghaaF4
namespace Go.Proofs.Ytknnniaoboaghaa
open Go.V
set_option linter.unusedVariables false
set_option maxRecDepth 20000
theorem p72 (s : ByteArray) : Pure En 133 [.one (.str s)] [.one (.bool (decide (word s)))] := by
 refine Pure.of_wp Try.func133 rfl kb ?_
 refine A2 (A0 (C6 j5 (A3 (A1 (A2 (A2 (A0 (S7 j5 (rls rfl j5 ?_)))))))))
 refine I6 j6 ?_ ?_ <;> intro h1_2
 ·refine C4 j5 (A4 j3 (A4 j3 (A4 j3 (C0 (e := true) j6 (C4 j5 (A4 j3 (A4 j3 (A4 j3 (A4 j3 (C0 (e := true) j6 (A3 (A1 ?_))))))))))))
  refine wT rfl (A2 (A0 (C6 j5 (A3 (A1 (A9 (B2 ?_)))))))
  first
   | exact D2 rfl ⟨by omega, by omega, by assumption, fun j hj => hI.2 j (by omega)⟩
   | (refine C9 rfl fun hw => ?_; obtain ⟨w1, w2, w3, w4⟩ := hw; first | omega | exact h1_11 w3 | (have := (w4 i (by omega)).resolve_left h6_3; unfold digit at this; unfold bt at *; omega) | (have := (w4 i (by omega)).resolve_left h6_3; unfold digit at this; first | exact absurd this.1 (Int.not_le.mpr h6_9) | exact absurd this.2 (Int.not_le.mpr h6_14)))
 ·refine C4 j5 (S7 j5 (rls rfl j5 ?_))
  refine V4 j6 ?_ ?_ <;> intro h1_6
  ·refine C0 (e := true) j6 (C4 j5 (A4 j3 (A4 j3 (A4 j3 (A4 j3 (C0 (e := true) j6 (A3 (A1 (wT rfl (A2 (A0 (C6 j5 ?_))))))))))))
   refine A3 (A1 (A9 (B2 ?_)))
   first
    | exact D2 rfl ⟨by omega, by omega, by assumption, fun j hj => hI.2 j (by omega)⟩
    | (refine C9 rfl fun hw => ?_; obtain ⟨w1, w2, w3, w4⟩ := hw; first | omega | exact h1_11 w3 | (have := (w4 i (by omega)).resolve_left h6_3; unfold digit at this; unfold bt at *; omega) | (have := (w4 i (by omega)).resolve_left h6_3; unfold digit at this; first | exact absurd this.1 (Int.not_le.mpr h6_9) | exact absurd this.2 (Int.not_le.mpr h6_14)))
  ·refine C0 (e := false) j6 (C4 j5 (S7 j5 (rixsK (i := 0) j4 ?_ ?_ j4 ?_)))
   ·exact Q4
   ·exact Q4
   refine F3 (p83 _) rfl j5 ?_ ?_ <;> intro h1_11
   ·refine D5 (c := true) j5 (C0 (e := false) j6 (A3 (A1 (wF rfl (B0 (A1 (A2 (A2 (A0 (S7 j5 (rls rfl j5 (B6 j5 ?_))))))))))))
    refine A3 (A1 (B3 (F0 ?_)))
    refine AJ (fun (i : Nat) => [.str s, .unk, .unk, .unk, .unk, .unk, .unk, .unk, .unk, .unk, .unk, .unk, .unk, .unk, .unk, .unk, .unk, .unk, .unk, .int .i64 s.size, .int .i64 i]) (fun (i : Nat) => i ≤ s.size ∧ ∀ j, j < i → letter (bt s j) ∨ digit (bt s j)) (fun (i : Nat) => s.size - i) 0 ?_ ?_ ?_
    ·exact ⟨by omega, W5⟩
    ·(repeat first | exact LE.nil _ | refine LE.unk _ _ ?_ | refine LE.eq _ _ _ rfl ?_)
    intro i hI ih
    refine E8 (A2 (A0 ?_))
    refine I6 j6 ?_ ?_ <;> intro h4_0
    ·refine A3 (A1 (A2 (wT rfl (B0 (A1 (A2 (B3 (A2 (A0 (B6 j5 (D0 j5 (A3 ?_))))))))))))
     refine A1 (A2 (A0 (S7 j5 (B6 j5 (rixs j4 ?_ ?_ j3 ?_)))))
     ·exact Q4
     ·exact Q4
     refine F3 (p83 _) rfl j5 ?_ ?_ <;> intro h6_3
     ·refine D5 (c := true) j5 (C4 j5 (A4 j3 (A4 j3 (A4 j3 (A4 j3 (A4 j3 (A4 j3 (A4 j3 (A4 j3 (A4 j3 (A4 j3 (C0 (e := false) j6 ?_))))))))))))
      refine A3 (A1 (wF rfl (B0 (B7 (A1 (A0 (C3 j3 ?_ ?_ j3 ?_)))))))
      ·exact Q4
      ·exact Q4
      refine B6 j5 (A3 (D1 ?_))
      exact wlN (ih (i + 1) ⟨by omega, U7 hI.2 (by first | exact .inl h6_3 | exact .inr ⟨Int.not_lt.mp h6_9, Int.not_lt.mp h6_14⟩)⟩ (by omega)) (by (repeat first | exact LE.nil _ | refine LE.unk _ _ ?_ | refine LE.eq _ _ _ rfl ?_))
     ·refine D5 (c := false) j5 (C4 j5 (S7 j5 (B6 j5 (rixs j4 ?_ ?_ j3 ?_))))
      ·exact Q4
      ·exact Q4
      refine I6 j6 ?_ ?_ <;> intro h6_9
      ·refine C4 j5 (A4 j3 (A4 j3 (A4 j3 (A4 j3 (C0 (e := true) j6 (C0 (e := true) j6 (A3 (A1 (wT rfl (A2 (A0 (C6 j5 ?_))))))))))))
       refine A3 (A1 (A9 (B4 (B2 (I4 (B4 (B2 ?_)))))))
       first
        | exact D2 rfl ⟨by omega, by omega, by assumption, fun j hj => hI.2 j (by omega)⟩
        | (refine C9 rfl fun hw => ?_; obtain ⟨w1, w2, w3, w4⟩ := hw; first | omega | exact h1_11 w3 | (have := (w4 i (by omega)).resolve_left h6_3; unfold digit at this; unfold bt at *; omega) | (have := (w4 i (by omega)).resolve_left h6_3; unfold digit at this; first | exact absurd this.1 (Int.not_le.mpr h6_9) | exact absurd this.2 (Int.not_le.mpr h6_14)))
      ·refine C4 j5 (S7 j5 (B6 j5 (rixs j4 ?_ ?_ j3 ?_)))
       ·exact Q4
       ·exact Q4
       refine V4 j6 ?_ ?_ <;> intro h6_14
       ·refine C0 (e := true) j6 (C0 (e := true) j6 (A3 (A1 (wT rfl (A2 (A0 (C6 j5 (A3 (A1 (A9 (B4 (B2 ?_))))))))))))
        refine I4 (B4 (B2 ?_))
        first
         | exact D2 rfl ⟨by omega, by omega, by assumption, fun j hj => hI.2 j (by omega)⟩
         | (refine C9 rfl fun hw => ?_; obtain ⟨w1, w2, w3, w4⟩ := hw; first | omega | exact h1_11 w3 | (have := (w4 i (by omega)).resolve_left h6_3; unfold digit at this; unfold bt at *; omega) | (have := (w4 i (by omega)).resolve_left h6_3; unfold digit at this; first | exact absurd this.1 (Int.not_le.mpr h6_9) | exact absurd this.2 (Int.not_le.mpr h6_14)))
       ·refine C0 (e := false) j6 (C0 (e := false) j6 (A3 (A1 (wF rfl (B0 (B7 (A1 (A0 (C3 j3 ?_ ?_ j3 ?_)))))))))
        ·exact Q4
        ·exact Q4
        refine B6 j5 (A3 (D1 ?_))
        exact wlN (ih (i + 1) ⟨by omega, U7 hI.2 (by first | exact .inl h6_3 | exact .inr ⟨Int.not_lt.mp h6_9, Int.not_lt.mp h6_14⟩)⟩ (by omega)) (by (repeat first | exact LE.nil _ | refine LE.unk _ _ ?_ | refine LE.eq _ _ _ rfl ?_))
    ·refine A3 (A1 (A2 (wF rfl (E5 (E6 (D7 (C8 (A1 (A2 (A0 (C6 j5 (A3 ?_))))))))))))
     refine A1 (A9 ?_)
     first
      | exact D2 rfl ⟨by omega, by omega, by assumption, fun j hj => hI.2 j (by omega)⟩
      | (refine C9 rfl fun hw => ?_; obtain ⟨w1, w2, w3, w4⟩ := hw; first | omega | exact h1_11 w3 | (have := (w4 i (by omega)).resolve_left h6_3; unfold digit at this; unfold bt at *; omega) | (have := (w4 i (by omega)).resolve_left h6_3; unfold digit at this; first | exact absurd this.1 (Int.not_le.mpr h6_9) | exact absurd this.2 (Int.not_le.mpr h6_14)))
   ·refine D5 (c := false) j5 (C0 (e := true) j6 (A3 (A1 (wT rfl (A2 (A0 (C6 j5 (A3 (A1 (A9 (B2 ?_)))))))))))
    first
     | exact D2 rfl ⟨by omega, by omega, by assumption, fun j hj => hI.2 j (by omega)⟩
     | (refine C9 rfl fun hw => ?_; obtain ⟨w1, w2, w3, w4⟩ := hw; first | omega | exact h1_11 w3 | (have := (w4 i (by omega)).resolve_left h6_3; unfold digit at this; unfold bt at *; omega) | (have := (w4 i (by omega)).resolve_left h6_3; unfold digit at this; first | exact absurd this.1 (Int.not_le.mpr h6_9) | exact absurd this.2 (Int.not_le.mpr h6_14)))
def opName (s : ByteArray) : Prop := s.size ≤ 12 ∧ word s
noncomputable instance (s : ByteArray) : Decidable (opName s) := Classical.propDecidable _
theorem p53 (s : ByteArray) : Pure En 107 [.one (.str s)] [.one (.bool (decide (opName s)))] := by
 refine Pure.of_wp Try.func107 rfl kb ?_
 refine A2 (A0 (C6 j5 (A3 (A1 (A2 (A0 (S7 j5 (rls rfl j5 ?_))))))))
 refine rle j6 ?_ ?_ <;> intro h1_2
 ·refine C4 j5 (S7 j5 ?_)
  refine F3 (p72 _) rfl j5 ?_ ?_ <;> intro h1_5
  ·refine C0 (e := true) j6 (C6 j5 (A3 (A1 (A9 ?_))))
   first | exact D2 rfl ⟨by omega, by assumption⟩ | (refine C9 rfl fun hw => ?_; obtain ⟨w1, w2⟩ := hw; first | omega | exact h1_5 w2)
  ·refine C0 (e := false) j6 (C6 j5 (A3 (A1 (A9 ?_))))
   first | exact D2 rfl ⟨by omega, by assumption⟩ | (refine C9 rfl fun hw => ?_; obtain ⟨w1, w2⟩ := hw; first | omega | exact h1_5 w2)
 ·refine C4 j5 (A4 j3 (A4 j3 (C0 (e := false) j6 (C6 j5 (A3 (A1 (A9 ?_)))))))
  first | exact D2 rfl ⟨by omega, by assumption⟩ | (refine C9 rfl fun hw => ?_; obtain ⟨w1, w2⟩ := hw; first | omega | exact h1_5 w2)
theorem p85 (s : ByteArray) (n : Int) : Pure En 81 [.one (.str s), .one (.int .i64 n)] [.one (.bool (decide (s.size ≤ n ∧ word s)))] := by
 refine Pure.of_wp Try.func81 rfl kb ?_
 refine A2 (A0 (C6 j5 (A3 (A1 (A2 (A0 (S7 j5 (rls rfl j5 (B6 j5 ?_)))))))))
 refine F3 (p84 _ _ _) rfl j5 ?_ ?_ <;> intro h1_3
 ·refine C4 j5 (S7 j5 ?_)
  refine F3 (p89 _) rfl j5 ?_ ?_ <;> intro h1_6
  ·refine C0 (e := true) j6 (C6 j5 (A3 (A1 (A9 ?_))))
   first | exact D2 rfl ⟨by omega, by assumption⟩ | (refine C9 rfl fun hw => ?_; obtain ⟨w1, w2⟩ := hw; first | exact h1_6 w2 | (have := w2.1; omega))
  ·refine C0 (e := false) j6 (C6 j5 (A3 (A1 (A9 ?_))))
   first | exact D2 rfl ⟨by omega, by assumption⟩ | (refine C9 rfl fun hw => ?_; obtain ⟨w1, w2⟩ := hw; first | exact h1_6 w2 | (have := w2.1; omega))
 ·refine C4 j5 (A4 j3 (A4 j3 (C0 (e := false) j6 (C6 j5 (A3 (A1 (A9 ?_)))))))
  first | exact D2 rfl ⟨by omega, by assumption⟩ | (refine C9 rfl fun hw => ?_; obtain ⟨w1, w2⟩ := hw; first | exact h1_6 w2 | (have := w2.1; omega))
structure Rq where
 cl : Int
 st : Int
 kd : Int
 le : Int
 nm : ByteArray
def Rq.T (r : Rq) : List T := [.int .i64 r.cl, .int .i64 r.st, .int .i64 r.kd, .int .i64 r.le, .str r.nm]
def Rq.OK (r : Rq) : Prop := (0 ≤ r.cl ∧ r.cl ≤ 255) ∧ (1 ≤ r.st ∧ r.st ≤ 65535) ∧ (1 ≤ r.kd ∧ r.kd ≤ 4) ∧ (0 ≤ r.le ∧ r.le ≤ 1000) ∧ opName r.nm ∧ (r.le > 0 ↔ (r.kd = 1 ∨ r.kd = 3))
noncomputable instance (r : Rq) : Decidable r.OK := Classical.propDecidable _
theorem p73 (r : Rq) : Pure En 69 [.agg r.T] [.one (.bool (decide r.OK))] := by
 refine Pure.of_wp Try.func69 rfl kb ?_
 refine A2 (A0 (L7 (u := .agg [.int _ _, .int _ _, .int _ _, .int _ _, .str _]) j3 rfl j3 (C6 j5 (A3 (A1 (A2 (A0 (C1 (off := 0) (s := 1) (r := false) j3 kz j3 (C5 (v := .int _ _) j2 rfl rfl j5 ?_)))))))))
 refine F3 (p84 _ _ _) rfl j5 ?_ ?_ <;> intro h1_2
 ·refine C4 j5 (C1 (off := 1) (s := 1) (r := false) j3 kz j3 (C5 (v := .int _ _) j2 rfl rfl j5 ?_))
  refine F3 (p84 _ _ _) rfl j5 ?_ ?_ <;> intro h1_6
  ·refine C0 (e := true) j6 (C4 j5 (C1 (off := 2) (s := 1) (r := false) j3 kz j3 (C5 (v := .int _ _) j2 rfl rfl j5 ?_)))
   refine F3 (p84 _ _ _) rfl j5 ?_ ?_ <;> intro h1_11
   ·refine C0 (e := true) j6 (C4 j5 (C1 (off := 3) (s := 1) (r := false) j3 kz j3 (C5 (v := .int _ _) j2 rfl rfl j5 ?_)))
    refine F3 (p84 _ _ _) rfl j5 ?_ ?_ <;> intro h1_16
    ·refine C0 (e := true) j6 (C4 j5 (C1 (off := 4) (s := 1) (r := false) j3 kz j3 (C5 (v := .str _) j2 rfl rfl j5 ?_)))
     refine F3 (p85 _ _) rfl j5 ?_ ?_ <;> intro h1_21
     ·refine C0 (e := true) j6 (C4 j5 (C1 (off := 3) (s := 1) (r := false) j3 kz j3 (C5 (v := .int _ _) j2 rfl rfl j5 ?_)))
      refine V4 j6 ?_ ?_ <;> intro h1_26
      ·refine C1 (off := 2) (s := 1) (r := false) j3 kz j3 (C5 (v := .int _ _) j2 rfl rfl j5 ?_)
       refine H5 j6 ?_ ?_ <;> intro h1_29
       ·refine C4 j5 (A4 j3 (A4 j3 (A4 j3 (C0 (e := true) j6 (rbeq (c := true) (e := true) j7 (C0 (e := true) j6 (C6 j5 (A3 (A1 (A9 ?_))))))))))
        first
         | exact D2 rfl ⟨by omega, by omega, by omega, by omega, ⟨by omega, h1_21.2⟩, by omega⟩
         | (refine C9 rfl fun hw => ?_; obtain ⟨w1, w2, w3, w4, w5, w6⟩ := hw; first | omega | exact h1_21 ⟨by have := w5.1; omega, w5.2⟩)
       ·refine C4 j5 (C1 (off := 2) (s := 1) (r := false) j3 kz j3 (C5 (v := .int _ _) j2 rfl rfl j5 ?_))
        refine H5 j6 ?_ ?_ <;> intro h1_33
        ·refine C0 (e := true) j6 (rbeq (c := true) (e := true) j7 (C0 (e := true) j6 (C6 j5 (A3 (A1 (A9 ?_))))))
         first
          | exact D2 rfl ⟨by omega, by omega, by omega, by omega, ⟨by omega, h1_21.2⟩, by omega⟩
          | (refine C9 rfl fun hw => ?_; obtain ⟨w1, w2, w3, w4, w5, w6⟩ := hw; first | omega | exact h1_21 ⟨by have := w5.1; omega, w5.2⟩)
        ·refine C0 (e := false) j6 (rbeq (c := true) (e := false) j7 (C0 (e := false) j6 (C6 j5 (A3 (A1 (A9 ?_))))))
         first
          | exact D2 rfl ⟨by omega, by omega, by omega, by omega, ⟨by omega, h1_21.2⟩, by omega⟩
          | (refine C9 rfl fun hw => ?_; obtain ⟨w1, w2, w3, w4, w5, w6⟩ := hw; first | omega | exact h1_21 ⟨by have := w5.1; omega, w5.2⟩)
      ·refine C1 (off := 2) (s := 1) (r := false) j3 kz j3 (C5 (v := .int _ _) j2 rfl rfl j5 ?_)
       refine H5 j6 ?_ ?_ <;> intro h1_29
       ·refine C4 j5 (A4 j3 (A4 j3 (A4 j3 (C0 (e := true) j6 (rbeq (c := false) (e := true) j7 (C0 (e := false) j6 (C6 j5 (A3 (A1 (A9 ?_))))))))))
        first
         | exact D2 rfl ⟨by omega, by omega, by omega, by omega, ⟨by omega, h1_21.2⟩, by omega⟩
         | (refine C9 rfl fun hw => ?_; obtain ⟨w1, w2, w3, w4, w5, w6⟩ := hw; first | omega | exact h1_21 ⟨by have := w5.1; omega, w5.2⟩)
       ·refine C4 j5 (C1 (off := 2) (s := 1) (r := false) j3 kz j3 (C5 (v := .int _ _) j2 rfl rfl j5 ?_))
        refine H5 j6 ?_ ?_ <;> intro h1_33
        ·refine C0 (e := true) j6 (rbeq (c := false) (e := true) j7 (C0 (e := false) j6 (C6 j5 (A3 (A1 (A9 ?_))))))
         first
          | exact D2 rfl ⟨by omega, by omega, by omega, by omega, ⟨by omega, h1_21.2⟩, by omega⟩
          | (refine C9 rfl fun hw => ?_; obtain ⟨w1, w2, w3, w4, w5, w6⟩ := hw; first | omega | exact h1_21 ⟨by have := w5.1; omega, w5.2⟩)
        ·refine C0 (e := false) j6 (rbeq (c := false) (e := false) j7 (C0 (e := true) j6 (C6 j5 (A3 (A1 (A9 ?_))))))
         first
          | exact D2 rfl ⟨by omega, by omega, by omega, by omega, ⟨by omega, h1_21.2⟩, by omega⟩
          | (refine C9 rfl fun hw => ?_; obtain ⟨w1, w2, w3, w4, w5, w6⟩ := hw; first | omega | exact h1_21 ⟨by have := w5.1; omega, w5.2⟩)
     ·refine C0 (e := false) j6 (C4 j5 (A4 j3 (A4 j3 (A4 j3 (A4 j3 (A4 j3 (A4 j3 (A4 j3 (A4 j3 (A4 j3 (A4 j3 (A4 j3 ?_))))))))))))
      refine A4 j3 (C0 (e := false) j6 (C6 j5 (A3 (A1 (A9 ?_)))))
      first
       | exact D2 rfl ⟨by omega, by omega, by omega, by omega, ⟨by omega, h1_21.2⟩, by omega⟩
       | (refine C9 rfl fun hw => ?_; obtain ⟨w1, w2, w3, w4, w5, w6⟩ := hw; first | omega | exact h1_21 ⟨by have := w5.1; omega, w5.2⟩)
    ·refine C0 (e := false) j6 (C4 j5 (A4 j3 (A4 j3 (A4 j3 (C0 (e := false) j6 (C4 j5 (A4 j3 (A4 j3 (A4 j3 (A4 j3 (A4 j3 (A4 j3 ?_))))))))))))
     refine A4 j3 (A4 j3 (A4 j3 (A4 j3 (A4 j3 (A4 j3 (C0 (e := false) j6 (C6 j5 (A3 (A1 (A9 ?_))))))))))
     first
      | exact D2 rfl ⟨by omega, by omega, by omega, by omega, ⟨by omega, h1_21.2⟩, by omega⟩
      | (refine C9 rfl fun hw => ?_; obtain ⟨w1, w2, w3, w4, w5, w6⟩ := hw; first | omega | exact h1_21 ⟨by have := w5.1; omega, w5.2⟩)
   ·refine C0 (e := false) j6 (C4 j5 (A4 j3 (A4 j3 (A4 j3 (C0 (e := false) j6 (C4 j5 (A4 j3 (A4 j3 (A4 j3 (C0 (e := false) j6 (C4 j5 (A4 j3 ?_))))))))))))
    refine A4 j3 (A4 j3 (A4 j3 (A4 j3 (A4 j3 (A4 j3 (A4 j3 (A4 j3 (A4 j3 (A4 j3 (A4 j3 (C0 (e := false) j6 (C6 j5 ?_))))))))))))
    refine A3 (A1 (A9 ?_))
    first
     | exact D2 rfl ⟨by omega, by omega, by omega, by omega, ⟨by omega, h1_21.2⟩, by omega⟩
     | (refine C9 rfl fun hw => ?_; obtain ⟨w1, w2, w3, w4, w5, w6⟩ := hw; first | omega | exact h1_21 ⟨by have := w5.1; omega, w5.2⟩)
  ·refine C0 (e := false) j6 (C4 j5 (A4 j3 (A4 j3 (A4 j3 (C0 (e := false) j6 (C4 j5 (A4 j3 (A4 j3 (A4 j3 (C0 (e := false) j6 (C4 j5 (A4 j3 ?_))))))))))))
   refine A4 j3 (A4 j3 (C0 (e := false) j6 (C4 j5 (A4 j3 (A4 j3 (A4 j3 (A4 j3 (A4 j3 (A4 j3 (A4 j3 (A4 j3 (A4 j3 ?_))))))))))))
   refine A4 j3 (A4 j3 (A4 j3 (C0 (e := false) j6 (C6 j5 (A3 (A1 (A9 ?_)))))))
   first
    | exact D2 rfl ⟨by omega, by omega, by omega, by omega, ⟨by omega, h1_21.2⟩, by omega⟩
    | (refine C9 rfl fun hw => ?_; obtain ⟨w1, w2, w3, w4, w5, w6⟩ := hw; first | omega | exact h1_21 ⟨by have := w5.1; omega, w5.2⟩)
 ·refine C4 j5 (A4 j3 (A4 j3 (A4 j3 (C0 (e := false) j6 (C4 j5 (A4 j3 (A4 j3 (A4 j3 (C0 (e := false) j6 (C4 j5 (A4 j3 (A4 j3 ?_))))))))))))
  refine A4 j3 (C0 (e := false) j6 (C4 j5 (A4 j3 (A4 j3 (A4 j3 (C0 (e := false) j6 (C4 j5 (A4 j3 (A4 j3 (A4 j3 (A4 j3 (A4 j3 ?_))))))))))))
  refine A4 j3 (A4 j3 (A4 j3 (A4 j3 (A4 j3 (A4 j3 (A4 j3 (C0 (e := false) j6 (C6 j5 (A3 (A1 (A9 ?_)))))))))))
  first
   | exact D2 rfl ⟨by omega, by omega, by omega, by omega, ⟨by omega, h1_21.2⟩, by omega⟩
   | (refine C9 rfl fun hw => ?_; obtain ⟨w1, w2, w3, w4, w5, w6⟩ := hw; first | omega | exact h1_21 ⟨by have := w5.1; omega, w5.2⟩)
theorem p26 (r : Rq) : Pure En 70 [.agg r.T] [.one (.bool (decide r.OK))] := by
 refine Pure.of_wp Try.func70 rfl kb ?_
 refine A2 (A0 (L7 (u := .agg [.int _ _, .int _ _, .int _ _, .int _ _, .str _]) j3 rfl j3 (C6 j5 (A3 (A1 (A2 (A0 (D0 j5 (D0 j5 (A3 (A1 (A2 ?_))))))))))))
 refine A2 (A0 (C1 (off := 2) (s := 1) (r := false) j3 kz j3 (C5 (v := .int _ _) j2 rfl rfl j5 ?_)))
 refine H5 j6 ?_ ?_ <;> intro h2_2
 ·refine C4 j5 (A4 j3 (A4 j3 (A4 j3 (C0 (e := true) j6 (A3 (A1 (wT rfl (A0 (D0 j5 (D0 j5 (A3 (A1 ?_))))))))))))
  refine A2 (A0 (C1 (off := 0) (s := 1) (r := false) j3 kz j3 (C5 (v := .int _ _) j2 rfl rfl j5 ?_)))
  refine F3 (Z9 _ _ _) rfl j5 ?_ ?_ <;> intro h4_2
  ·refine C4 j5 (C1 (off := 1) (s := 1) (r := false) j3 kz j3 (C5 (v := .int _ _) j2 rfl rfl j5 ?_))
   refine F3 (Z9 _ _ _) rfl j5 ?_ ?_ <;> intro h4_6
   ·refine C0 (e := true) j6 (C4 j5 (C1 (off := 2) (s := 1) (r := false) j3 kz j3 (C5 (v := .int _ _) j2 rfl rfl j5 ?_)))
    refine F3 (Z9 _ _ _) rfl j5 ?_ ?_ <;> intro h4_11
    ·refine C0 (e := true) j6 (C4 j5 (C1 (off := 3) (s := 1) (r := false) j3 kz j3 (C5 (v := .int _ _) j2 rfl rfl j5 (B6 j5 (B6 j5 ?_)))))
     refine F3 (Z9 _ _ _) rfl j5 ?_ ?_ <;> intro h4_18
     ·refine C0 (e := true) j6 (C4 j5 (C1 (off := 4) (s := 1) (r := false) j3 kz j3 (C5 (v := .str _) j2 rfl rfl j5 ?_)))
      refine F3 (p53 _) rfl j5 ?_ ?_ <;> intro h4_23
      ·refine C0 (e := true) j6 (C6 j5 (A3 (A1 (A9 ?_))))
       first
        | exact D2 rfl ⟨by omega, by omega, by omega, by omega, by assumption, by omega⟩
        | (refine C9 rfl fun hw => ?_; obtain ⟨w1, w2, w3, w4, w5, w6⟩ := hw; first | omega | exact h4_23 w5)
      ·refine C0 (e := false) j6 (C6 j5 (A3 (A1 (A9 ?_))))
       first
        | exact D2 rfl ⟨by omega, by omega, by omega, by omega, by assumption, by omega⟩
        | (refine C9 rfl fun hw => ?_; obtain ⟨w1, w2, w3, w4, w5, w6⟩ := hw; first | omega | exact h4_23 w5)
     ·refine C0 (e := false) j6 (C4 j5 (A4 j3 (A4 j3 (A4 j3 (C0 (e := false) j6 (C6 j5 (A3 (A1 (A9 ?_)))))))))
      first
       | exact D2 rfl ⟨by omega, by omega, by omega, by omega, by assumption, by omega⟩
       | (refine C9 rfl fun hw => ?_; obtain ⟨w1, w2, w3, w4, w5, w6⟩ := hw; first | omega | exact h4_23 w5)
    ·refine C0 (e := false) j6 (C4 j5 (A4 j3 (A4 j3 (A4 j3 (A4 j3 (A4 j3 (C0 (e := false) j6 (C4 j5 (A4 j3 (A4 j3 (A4 j3 (C0 (e := false) j6 ?_))))))))))))
     refine C6 j5 (A3 (A1 (A9 ?_)))
     first
      | exact D2 rfl ⟨by omega, by omega, by omega, by omega, by assumption, by omega⟩
      | (refine C9 rfl fun hw => ?_; obtain ⟨w1, w2, w3, w4, w5, w6⟩ := hw; first | omega | exact h4_23 w5)
   ·refine C0 (e := false) j6 (C4 j5 (A4 j3 (A4 j3 (A4 j3 (C0 (e := false) j6 (C4 j5 (A4 j3 (A4 j3 (A4 j3 (A4 j3 (A4 j3 (C0 (e := false) j6 ?_))))))))))))
    refine C4 j5 (A4 j3 (A4 j3 (A4 j3 (C0 (e := false) j6 (C6 j5 (A3 (A1 (A9 ?_))))))))
    first
     | exact D2 rfl ⟨by omega, by omega, by omega, by omega, by assumption, by omega⟩
     | (refine C9 rfl fun hw => ?_; obtain ⟨w1, w2, w3, w4, w5, w6⟩ := hw; first | omega | exact h4_23 w5)
  ·refine C4 j5 (A4 j3 (A4 j3 (A4 j3 (C0 (e := false) j6 (C4 j5 (A4 j3 (A4 j3 (A4 j3 (C0 (e := false) j6 (C4 j5 (A4 j3 (A4 j3 ?_))))))))))))
   refine A4 j3 (A4 j3 (A4 j3 (C0 (e := false) j6 (C4 j5 (A4 j3 (A4 j3 (A4 j3 (C0 (e := false) j6 (C6 j5 (A3 (A1 (A9 ?_))))))))))))
   first
    | exact D2 rfl ⟨by omega, by omega, by omega, by omega, by assumption, by omega⟩
    | (refine C9 rfl fun hw => ?_; obtain ⟨w1, w2, w3, w4, w5, w6⟩ := hw; first | omega | exact h4_23 w5)
 ·refine C4 j5 (C1 (off := 2) (s := 1) (r := false) j3 kz j3 (C5 (v := .int _ _) j2 rfl rfl j5 ?_))
  refine H5 j6 ?_ ?_ <;> intro h2_6
  ·refine C0 (e := true) j6 (A3 (A1 (wT rfl (A0 (D0 j5 (D0 j5 (A3 (A1 (A2 (A0 (C1 (off := 0) (s := 1) (r := false) j3 kz j3 (C5 (v := .int _ _) j2 rfl rfl j5 ?_))))))))))))
   refine F3 (Z9 _ _ _) rfl j5 ?_ ?_ <;> intro h4_2
   ·refine C4 j5 (C1 (off := 1) (s := 1) (r := false) j3 kz j3 (C5 (v := .int _ _) j2 rfl rfl j5 ?_))
    refine F3 (Z9 _ _ _) rfl j5 ?_ ?_ <;> intro h4_6
    ·refine C0 (e := true) j6 (C4 j5 (C1 (off := 2) (s := 1) (r := false) j3 kz j3 (C5 (v := .int _ _) j2 rfl rfl j5 ?_)))
     refine F3 (Z9 _ _ _) rfl j5 ?_ ?_ <;> intro h4_11
     ·refine C0 (e := true) j6 (C4 j5 (C1 (off := 3) (s := 1) (r := false) j3 kz j3 (C5 (v := .int _ _) j2 rfl rfl j5 (B6 j5 (B6 j5 ?_)))))
      refine F3 (Z9 _ _ _) rfl j5 ?_ ?_ <;> intro h4_18
      ·refine C0 (e := true) j6 (C4 j5 (C1 (off := 4) (s := 1) (r := false) j3 kz j3 (C5 (v := .str _) j2 rfl rfl j5 ?_)))
       refine F3 (p53 _) rfl j5 ?_ ?_ <;> intro h4_23
       ·refine C0 (e := true) j6 (C6 j5 (A3 (A1 (A9 ?_))))
        first
         | exact D2 rfl ⟨by omega, by omega, by omega, by omega, by assumption, by omega⟩
         | (refine C9 rfl fun hw => ?_; obtain ⟨w1, w2, w3, w4, w5, w6⟩ := hw; first | omega | exact h4_23 w5)
       ·refine C0 (e := false) j6 (C6 j5 (A3 (A1 (A9 ?_))))
        first
         | exact D2 rfl ⟨by omega, by omega, by omega, by omega, by assumption, by omega⟩
         | (refine C9 rfl fun hw => ?_; obtain ⟨w1, w2, w3, w4, w5, w6⟩ := hw; first | omega | exact h4_23 w5)
      ·refine C0 (e := false) j6 (C4 j5 (A4 j3 (A4 j3 (A4 j3 (C0 (e := false) j6 (C6 j5 (A3 (A1 (A9 ?_)))))))))
       first
        | exact D2 rfl ⟨by omega, by omega, by omega, by omega, by assumption, by omega⟩
        | (refine C9 rfl fun hw => ?_; obtain ⟨w1, w2, w3, w4, w5, w6⟩ := hw; first | omega | exact h4_23 w5)
     ·refine C0 (e := false) j6 (C4 j5 (A4 j3 (A4 j3 (A4 j3 (A4 j3 (A4 j3 (C0 (e := false) j6 (C4 j5 (A4 j3 (A4 j3 (A4 j3 (C0 (e := false) j6 ?_))))))))))))
      refine C6 j5 (A3 (A1 (A9 ?_)))
      first
       | exact D2 rfl ⟨by omega, by omega, by omega, by omega, by assumption, by omega⟩
       | (refine C9 rfl fun hw => ?_; obtain ⟨w1, w2, w3, w4, w5, w6⟩ := hw; first | omega | exact h4_23 w5)
    ·refine C0 (e := false) j6 (C4 j5 (A4 j3 (A4 j3 (A4 j3 (C0 (e := false) j6 (C4 j5 (A4 j3 (A4 j3 (A4 j3 (A4 j3 (A4 j3 (C0 (e := false) j6 ?_))))))))))))
     refine C4 j5 (A4 j3 (A4 j3 (A4 j3 (C0 (e := false) j6 (C6 j5 (A3 (A1 (A9 ?_))))))))
     first
      | exact D2 rfl ⟨by omega, by omega, by omega, by omega, by assumption, by omega⟩
      | (refine C9 rfl fun hw => ?_; obtain ⟨w1, w2, w3, w4, w5, w6⟩ := hw; first | omega | exact h4_23 w5)
   ·refine C4 j5 (A4 j3 (A4 j3 (A4 j3 (C0 (e := false) j6 (C4 j5 (A4 j3 (A4 j3 (A4 j3 (C0 (e := false) j6 (C4 j5 (A4 j3 (A4 j3 ?_))))))))))))
    refine A4 j3 (A4 j3 (A4 j3 (C0 (e := false) j6 (C4 j5 (A4 j3 (A4 j3 (A4 j3 (C0 (e := false) j6 (C6 j5 (A3 (A1 (A9 ?_))))))))))))
    first
     | exact D2 rfl ⟨by omega, by omega, by omega, by omega, by assumption, by omega⟩
     | (refine C9 rfl fun hw => ?_; obtain ⟨w1, w2, w3, w4, w5, w6⟩ := hw; first | omega | exact h4_23 w5)
  ·refine C0 (e := false) j6 (A3 (A1 (wF rfl (B0 (A1 (A2 (A0 (C1 (off := 0) (s := 1) (r := false) j3 kz j3 (C5 (v := .int _ _) j2 rfl rfl j5 ?_)))))))))
   refine F3 (Z9 _ _ _) rfl j5 ?_ ?_ <;> intro h4_2
   ·refine C4 j5 (C1 (off := 1) (s := 1) (r := false) j3 kz j3 (C5 (v := .int _ _) j2 rfl rfl j5 ?_))
    refine F3 (Z9 _ _ _) rfl j5 ?_ ?_ <;> intro h4_6
    ·refine C0 (e := true) j6 (C4 j5 (C1 (off := 2) (s := 1) (r := false) j3 kz j3 (C5 (v := .int _ _) j2 rfl rfl j5 ?_)))
     refine F3 (Z9 _ _ _) rfl j5 ?_ ?_ <;> intro h4_11
     ·refine C0 (e := true) j6 (C4 j5 (C1 (off := 3) (s := 1) (r := false) j3 kz j3 (C5 (v := .int _ _) j2 rfl rfl j5 (B6 j5 (B6 j5 ?_)))))
      refine F3 (Z9 _ _ _) rfl j5 ?_ ?_ <;> intro h4_18
      ·refine C0 (e := true) j6 (C4 j5 (C1 (off := 4) (s := 1) (r := false) j3 kz j3 (C5 (v := .str _) j2 rfl rfl j5 ?_)))
       refine F3 (p53 _) rfl j5 ?_ ?_ <;> intro h4_23
       ·refine C0 (e := true) j6 (C6 j5 (A3 (A1 (A9 ?_))))
        first
         | exact D2 rfl ⟨by omega, by omega, by omega, by omega, by assumption, by omega⟩
         | (refine C9 rfl fun hw => ?_; obtain ⟨w1, w2, w3, w4, w5, w6⟩ := hw; first | omega | exact h4_23 w5)
       ·refine C0 (e := false) j6 (C6 j5 (A3 (A1 (A9 ?_))))
        first
         | exact D2 rfl ⟨by omega, by omega, by omega, by omega, by assumption, by omega⟩
         | (refine C9 rfl fun hw => ?_; obtain ⟨w1, w2, w3, w4, w5, w6⟩ := hw; first | omega | exact h4_23 w5)
      ·refine C0 (e := false) j6 (C4 j5 (A4 j3 (A4 j3 (A4 j3 (C0 (e := false) j6 (C6 j5 (A3 (A1 (A9 ?_)))))))))
       first
        | exact D2 rfl ⟨by omega, by omega, by omega, by omega, by assumption, by omega⟩
        | (refine C9 rfl fun hw => ?_; obtain ⟨w1, w2, w3, w4, w5, w6⟩ := hw; first | omega | exact h4_23 w5)
     ·refine C0 (e := false) j6 (C4 j5 (A4 j3 (A4 j3 (A4 j3 (A4 j3 (A4 j3 (C0 (e := false) j6 (C4 j5 (A4 j3 (A4 j3 (A4 j3 (C0 (e := false) j6 ?_))))))))))))
      refine C6 j5 (A3 (A1 (A9 ?_)))
      first
       | exact D2 rfl ⟨by omega, by omega, by omega, by omega, by assumption, by omega⟩
       | (refine C9 rfl fun hw => ?_; obtain ⟨w1, w2, w3, w4, w5, w6⟩ := hw; first | omega | exact h4_23 w5)
    ·refine C0 (e := false) j6 (C4 j5 (A4 j3 (A4 j3 (A4 j3 (C0 (e := false) j6 (C4 j5 (A4 j3 (A4 j3 (A4 j3 (A4 j3 (A4 j3 (C0 (e := false) j6 ?_))))))))))))
     refine C4 j5 (A4 j3 (A4 j3 (A4 j3 (C0 (e := false) j6 (C6 j5 (A3 (A1 (A9 ?_))))))))
     first
      | exact D2 rfl ⟨by omega, by omega, by omega, by omega, by assumption, by omega⟩
      | (refine C9 rfl fun hw => ?_; obtain ⟨w1, w2, w3, w4, w5, w6⟩ := hw; first | omega | exact h4_23 w5)
   ·refine C4 j5 (A4 j3 (A4 j3 (A4 j3 (C0 (e := false) j6 (C4 j5 (A4 j3 (A4 j3 (A4 j3 (C0 (e := false) j6 (C4 j5 (A4 j3 (A4 j3 ?_))))))))))))
    refine A4 j3 (A4 j3 (A4 j3 (C0 (e := false) j6 (C4 j5 (A4 j3 (A4 j3 (A4 j3 (C0 (e := false) j6 (C6 j5 (A3 (A1 (A9 ?_))))))))))))
    first
     | exact D2 rfl ⟨by omega, by omega, by omega, by omega, by assumption, by omega⟩
     | (refine C9 rfl fun hw => ?_; obtain ⟨w1, w2, w3, w4, w5, w6⟩ := hw; first | omega | exact h4_23 w5)
open Go.V
set_option linter.unusedVariables false
set_option linter.unusedSimpArgs false
set_option maxRecDepth 20000
set_option maxHeartbeats 4000000
theorem D8 {α β : Type} (f : α → β) (d : α) {L : List α} {k : Nat} (h : k < L.length) : (L.map f)[k]? = some (f (L.getD k d)) := by
 simp [h]
abbrev Wt := Int × Int
def wtT (w : Wt) : List T := [.int .i64 w.1, .int .i64 w.2]
def wtV (w : Wt) : List V := [.int .i64 w.1, .int .i64 w.2]
structure An where
 kd : Int
 tk : Int
 hd : Int
 ex : Int
def An.T (a : An) : List T := [.int .i64 a.kd, .int .i64 a.tk, .int .i64 a.hd, .int .i64 a.ex]
def An.OK (a : An) : Prop := (1 ≤ a.kd ∧ a.kd ≤ 8) ∧ (0 ≤ a.tk ∧ a.tk ≤ 1000000) ∧ (-1 ≤ a.hd ∧ a.hd ≤ 255) ∧ (0 ≤ a.ex ∧ a.ex ≤ 2000000000)
instance (a : An) : Decidable a.OK := by unfold An.OK; infer_instance
structure Lk where
 nm : ByteArray
 tk : Int
 hd : Int
 ex : Int
 ws : List Wt
def Lk.T (b : Bool) (l : Lk) : List T := [.str l.nm, .int .i64 l.tk, .int .i64 l.hd, .int .i64 l.ex, .sl b (l.ws.map wtT)]
def Lk0 : Lk := ⟨⟨#[]⟩, 0, 0, 0, []⟩
structure Sn where
 cl : Int
 st : Int
 an : An
def Sn.T (s : Sn) : List T := [.int .i64 s.cl, .int .i64 s.st, .int .i64 s.an.kd, .int .i64 s.an.tk, .int .i64 s.an.hd, .int .i64 s.an.ex]
def Sn0 : Sn := ⟨0, 0, ⟨0, 0, 0, 0⟩⟩
structure Tb where
 tm : Int
 nx : Int
 lk : List Lk
 sn : List Sn
def Tb.T (t : Tb) (b n1 n2 : Bool) : List T := [.int .i64 t.tm, .int .i64 t.nx, .sl n1 (t.lk.map (Lk.T b)), .sl n2 (t.sn.map Sn.T)]
def wix (c : Int) : List Wt → Int
 | [] => -1
 | w :: r => if w.1 = c then 0 else if wix c r = -1 then -1 else wix c r + 1
theorem wix_ge (c : Int) : ∀ ws : List Wt, -1 ≤ wix c ws
 | [] => Int.le_refl _
 | w :: r => by
  have := wix_ge c r
  unfold wix
  split
  ·omega
  ·split <;> omega
theorem AU {c : Int} : ∀ {ws : List Wt} {i : Nat}, i < ws.length → (ws.getD i (0, 0)).1 = c → (∀ j, j < i → ¬ (ws.getD j (0, 0)).1 = c) → wix c ws = i
 | [], i, h, _, _ => absurd h (Nat.not_lt_zero _)
 | w :: r, 0, _, h, _ => by
  unfold wix
  rw [if_pos (by simpa using h)]; rfl
 | w :: r, i + 1, h, h1, h2 => by
  unfold wix
  rw [if_neg (by simpa using h2 0 (Nat.succ_pos _))]
  have := AU (ws := r) (i := i) (by simpa using h) (by simpa using h1) (fun j hj => by simpa using h2 (j + 1) (by omega))
  rw [this, if_neg (by omega)]; rfl
theorem AV {c : Int} : ∀ {ws : List Wt}, (∀ j, j < ws.length → ¬ (ws.getD j (0, 0)).1 = c) → wix c ws = -1
 | [], _ => rfl
 | w :: r, h => by
  unfold wix
  rw [if_neg (by simpa using h 0 (Nat.succ_pos _))]
  have := AV (ws := r) (fun j hj => by simpa using h (j + 1) (by simpa using hj))
  rw [this, if_pos rfl]
theorem J4 {c : Int} : ∀ {ws : List Wt} {i : Nat}, i < ws.length → (ws.getD i (0, 0)).1 = c → ((i : Int) ≤ wix c ws ↔ ∀ j, j < i → ¬ (ws.getD j (0, 0)).1 = c)
 | [], i, h, _ => absurd h (Nat.not_lt_zero _)
 | w :: r, 0, _, h => by
  unfold wix
  rw [if_pos (by simpa using h)]
  exact ⟨fun _ j hj => absurd hj (Nat.not_lt_zero _), fun _ => Int.le_refl _⟩
 | w :: r, i + 1, h, h1 => by
  have ih := J4 (ws := r) (i := i) (by simpa using h) (by simpa using h1)
  unfold wix
  by_cases hw : w.1 = c
  ·rw [if_pos hw]
   refine ⟨fun h => by omega, fun h => absurd (by simpa using hw) (h 0 (Nat.succ_pos _))⟩
  ·rw [if_neg hw]
   split
   ·rename_i hm
    refine ⟨fun h => by omega, fun h => ?_⟩
    have := ih.2 (fun j hj => by simpa using h (j + 1) (by omega))
    omega
   ·rename_i hm
    refine ⟨fun h j hj => ?_, fun h => ?_⟩
    ·cases j with
     | zero => simpa using hw
     | succ j => simpa using ih.1 (by omega) j (by omega)
    ·have := ih.2 (fun j hj => by simpa using h (j + 1) (by omega))
     omega
theorem o80 (w : Wt) (c : Int) {id : Nat} {h : Heap} {n : Nat} (hid : id < n) (hh : h id = some ⟨[[.int .i64 c]], 1, 3⟩) : V.Open En 141 [.agg (wtV w), .ptr id 0 0] h n (.bool (decide (w.1 = c))) [] (n + 1) := by
 refine V.Open.of_wp Try.func141 rfl kb ?_
 refine A2 (A0 (L7 (u := .agg [.int _ _, .int _ _]) j3 rfl j3 (C6 j5 (A3 (A1 (A2 (A0 (C1 (off := 0) (s := 1) (r := false) j3 kz j3 ?_))))))))
 (apply C5 (v := .int _ _) j2; exact Q0; rfl; exact j5)
 (apply C5 (v := .int _ _) j2; exact Q0; rfl; exact j5)
 refine H5 j6 ?_ ?_ <;> intro h1_3
 ·refine C6 j5 (A3 (A1 (A9 ?_)))
  first
   | (rw [decide_eq_true h1_3]; exact E7 rfl rfl (K8 (fun j hj => absurd hj List.not_mem_nil) (fun j hj hn => by simp (disch := omega) only [↓app0, ↓appC, ↓updS, ↓updN])) (Nat.le_refl _))
   | (rw [decide_eq_false h1_3]; exact E7 rfl rfl (K8 (fun j hj => absurd hj List.not_mem_nil) (fun j hj hn => by simp (disch := omega) only [↓app0, ↓appC, ↓updS, ↓updN])) (Nat.le_refl _))
 ·refine C6 j5 (A3 (A1 (A9 ?_)))
  first
   | (rw [decide_eq_true h1_3]; exact E7 rfl rfl (K8 (fun j hj => absurd hj List.not_mem_nil) (fun j hj hn => by simp (disch := omega) only [↓app0, ↓appC, ↓updS, ↓updN])) (Nat.le_refl _))
   | (rw [decide_eq_false h1_3]; exact E7 rfl rfl (K8 (fun j hj => absurd hj List.not_mem_nil) (fun j hj hn => by simp (disch := omega) only [↓app0, ↓appC, ↓updS, ↓updN])) (Nat.le_refl _))
theorem o79 (fr nn : Bool) (ws : List Wt) (c : Int) (hL : ws.length ≤ 1048576) {id : Nat} {h : Heap} {n : Nat} (hid : id < n) (hh : h id = some ⟨[[.int .i64 c]], 1, 3⟩) :
  V.Open En 140 [.sl fr nn (ws.map wtT), .clo 141 [.ptr id 0 0]] h n (.int .i64 (wix c ws)) [] (n + ws.length) := by
 have hl : (ws.map wtT).length = ws.length := List.length_map ..
 refine V.Open.of_wp Try.func140 rfl kb ?_
 refine A2 (A0 (D0 j5 (A3 (A1 (A2 (A2 (A0 (I8 j5 (H0 rfl rfl rfl j3 (B6 j5 (A3 (A1 ?_))))))))))))
 refine B3 (F0 ?_)
 refine E9 (fun (a : Nat × Nat) => [.sl fr nn (ws.map wtT), .clo 141 [.ptr id 0 0], .unk, .unk, .unk, .unk, .unk, .int .i64 (ws.map wtT).length, .int .i64 a.1]) (fun (a : Nat × Nat) => h) (fun (a : Nat × Nat) => a.2) (fun (a : Nat × Nat) => a.1 ≤ ws.length ∧ (∀ j, j < a.1 → ¬ (ws.getD j (0, 0)).1 = c) ∧ n + a.1 = a.2) (fun (a : Nat × Nat) => ws.length - a.1) (0, n) ?_ ?_ ?_ ?_ ?_
 ·exact ⟨Nat.zero_le _, W5, rfl⟩
 ·(repeat first | exact LE.nil _ | refine LE.unk _ _ ?_ | refine LE.eq _ _ _ rfl ?_)
 ·exact LessH.refl _
 ·exact Nat.le_refl _
 intro ⟨i, m⟩ hI ih
 dsimp only at hI ⊢
 refine E8 (A2 (A0 ?_))
 refine I6 j6 ?_ ?_ <;> intro h2_0
 ·refine A3 (A1 (A2 (wT rfl (B0 (A1 (A2 (B3 (A2 (A0 (B6 j5 (D0 j5 (A3 ?_))))))))))))
  refine A1 (A2 (A0 (rmC j5 (I8 j5 (B6 j5 ?_)))))
  (apply N0 j4; exact Q4; (first | rfl | assumption | (exact D8 wtT (0, 0) (by omega))); exact j4)
  refine T7 (vs := [.int _ _, .int _ _]) j3 kb j4 (ropB (o80 (ws.getD i (0, 0)) c (n := m) (by omega) hh) rfl j5 ?_ ?_)
  all_goals intro h4_5
  ·refine A3 (A1 (wT rfl (A2 (A0 (B6 j5 (D0 j5 (A3 (A1 (A9 (B4 (B2 (I4 ?_))))))))))))
   refine B4 (B2 ?_)
   rw [AU (i := i) (by omega) (of_decide_eq_true h4_5) hI.2.1]; exact E7 rfl rfl (fun _ _ _ e => e) (by omega)
  ·refine A3 (A1 (wF rfl (B0 (B7 (A1 (A0 (C3 j3 ?_ ?_ j3 ?_)))))))
   ·exact Q4
   ·exact Q4
   refine B6 j5 (A3 (D1 ?_))
   exact H4 (ih (i + 1, m + 1) ⟨by dsimp only; omega, U7 hI.2.1 (of_decide_eq_false h4_5), by dsimp only; omega⟩ (by dsimp only; omega)) (by (repeat first | exact LE.nil _ | refine LE.unk _ _ ?_ | refine LE.eq _ _ _ rfl ?_)) (LessH.refl _) (Nat.le_refl _)
 ·refine A3 (A1 (A2 (wF rfl (E5 (E6 (D7 (C8 (A1 (A2 (A0 (D0 j5 (A3 ?_))))))))))))
  refine A1 (A9 ?_)
  rw [AV (fun j hj => hI.2.1 j (by omega))]; exact E7 rfl rfl (fun _ _ _ e => e) (by omega)
theorem p66 (l : Lk) (nn : Bool) (c : Int) (hL : l.ws.length ≤ 1048576) : Pure En 117 [.agg [.str l.nm, .int .i64 l.tk, .int .i64 l.hd, .int .i64 l.ex, .sl nn (l.ws.map wtT)], .one (.int .i64 c)] [.one (.int .i64 (wix c l.ws))] := by
 refine Pure.of_wp Try.func117 rfl kb ?_
 refine A2 (A0 (L7 (u := .agg [.str _, .int _ _, .int _ _, .int _ _, _]) j3 rfl j3 (L7 (u := .int _ _) j3 rfl j3 (D0 j5 (A3 (A1 (A2 (A0 (C1 (off := 4) (s := 1) (r := false) j3 kz j3 ?_)))))))))
 (apply C5 (v := .sl _ _ _) j2; exact Q0; rfl; exact j5)
 refine rmf rfl j4 (I9 (o79 false nn l.ws c hL (id := 1) ?_ ?_) rfl rfl rfl rfl rfl rfl ?_)
 ·exact AK
 ·exact AK
 refine D0 j5 (A3 (A1 (A9 ?_)))
 exact fin rfl rfl
def wOK (l : Lk) (i : Nat) : Prop := (0 ≤ (l.ws.getD i (0, 0)).1 ∧ (l.ws.getD i (0, 0)).1 ≤ 255) ∧ (l.ws.getD i (0, 0)).1 ≠ l.hd ∧ (1 ≤ (l.ws.getD i (0, 0)).2 ∧ (l.ws.getD i (0, 0)).2 ≤ 1000) ∧ ∀ j, j < i → ¬ (l.ws.getD j (0, 0)).1 = (l.ws.getD i (0, 0)).1
def Lk.OK (nx : Int) (l : Lk) : Prop := opName l.nm ∧ (0 ≤ l.tk ∧ l.tk ≤ nx - 1) ∧ (-1 ≤ l.hd ∧ l.hd ≤ 255) ∧ (0 ≤ l.ex ∧ l.ex ≤ 2000000000) ∧ l.ws.length ≤ 4 ∧ (l.hd = -1 → l.ex = 0 ∧ l.ws.length = 0) ∧ ∀ i, i < l.ws.length → wOK l i
noncomputable instance (nx : Int) (l : Lk) : Decidable (l.OK nx) := Classical.propDecidable _
theorem p46 (l : Lk) (nn : Bool) (nx : Int) (hnx : 0 ≤ nx ∧ nx ≤ 1000000) : Pure En 78 [.agg [.str l.nm, .int .i64 l.tk, .int .i64 l.hd, .int .i64 l.ex, .sl nn (l.ws.map wtT)], .one (.int .i64 nx)] [.one (.bool (decide (l.OK nx)))] := by
 have hl : (l.ws.map wtT).length = l.ws.length := List.length_map ..
 refine Pure.of_wp Try.func78 rfl kb ?_
 refine A2 (A0 (L7 (u := .agg [.str _, .int _ _, .int _ _, .int _ _, _]) j3 rfl j3 (C6 j5 (A3 (A1 (A2 (A2 (A0 (C1 (off := 0) (s := 1) (r := false) j3 kz j3 ?_)))))))))
 (apply C5 (v := .str _) j2; exact Q0; rfl; exact j5)
 refine F3 (p53 _) rfl j5 ?_ ?_ <;> intro h1_2
 ·refine D5 (c := true) j5 (C4 j5 (C1 (off := 1) (s := 1) (r := false) j3 kz j3 ?_))
  (apply C5 (v := .int _ _) j2; exact Q0; rfl; exact j5)
  refine B6 j5 (S5 j3 ?_ ?_ j3 ?_)
  ·exact Q4
  ·exact Q4
  refine F3 (Z9 _ _ _) rfl j5 ?_ ?_ <;> intro h1_9
  ·refine D5 (c := true) j5 (C0 (e := false) j6 (C4 j5 (C1 (off := 2) (s := 1) (r := false) j3 kz j3 ?_)))
   (apply C5 (v := .int _ _) j2; exact Q0; rfl; exact j5)
   refine F3 (Z9 _ _ _) rfl j5 ?_ ?_ <;> intro h1_15
   ·refine D5 (c := true) j5 (C0 (e := false) j6 (C4 j5 (C1 (off := 3) (s := 1) (r := false) j3 kz j3 ?_)))
    (apply C5 (v := .int _ _) j2; exact Q0; rfl; exact j5)
    refine F3 (Z9 _ _ _) rfl j5 ?_ ?_ <;> intro h1_21
    ·refine D5 (c := true) j5 (C0 (e := false) j6 (C4 j5 (C1 (off := 4) (s := 1) (r := false) j3 kz j3 ?_)))
     (apply C5 (v := .sl _ _ _) j2; exact Q0; rfl; exact j5)
     refine H0 rfl rfl rfl j3 ?_
     refine V4 j6 ?_ ?_ <;> intro h1_28
     ·refine C0 (e := true) j6 (A3 (A1 (wT rfl (A2 (A0 (C6 j5 (A3 (A1 (A9 (B2 ?_))))))))))
      first
       | exact D2 rfl ⟨by assumption, by omega, by assumption, by assumption, by omega, fun hq => by first | exact absurd hq (by assumption) | exact ⟨by omega, by omega⟩, fun j hj => hI.2.1 j (by omega)⟩
       | (refine C9 rfl fun hw => ?_; obtain ⟨w1, w2, w3, w4, w5, w6, w7⟩ := hw; first | contradiction | omega | (have := w6 (by assumption); omega) | (obtain ⟨v1, v2, v3, v4⟩ := w7 i (by omega); first | contradiction | exact h8_2 v1 | exact v2 h8_9 | exact h8_14 v3 | (have h := h8_23; simp only [Int.toNat_natCast] at h; have := (J4 (ws := l.ws) (i := i) (by omega) rfl).2 v4; omega)))
     ·refine C0 (e := false) j6 (A3 (A1 (wF rfl (B0 (A1 (A2 (A2 (A0 (C1 (off := 2) (s := 1) (r := false) j3 kz j3 ?_)))))))))
      (apply C5 (v := .int _ _) j2; exact Q0; rfl; exact j5)
      refine H5 j6 ?_ ?_ <;> intro h3_2
      ·refine C4 j5 (C1 (off := 3) (s := 1) (r := false) j3 kz j3 ?_)
       (apply C5 (v := .int _ _) j2; exact Q0; rfl; exact j5)
       refine rne j6 ?_ ?_ <;> intro h3_6
       ·refine C4 j5 (A4 j3 (A4 j3 (A4 j3 (A4 j3 (C0 (e := true) j6 (C0 (e := true) j6 (A3 (A1 (wT rfl (A2 (A0 (C6 j5 ?_))))))))))))
        refine A3 (A1 (A9 (B2 ?_)))
        first
         | exact D2 rfl ⟨by assumption, by omega, by assumption, by assumption, by omega, fun hq => by first | exact absurd hq (by assumption) | exact ⟨by omega, by omega⟩, fun j hj => hI.2.1 j (by omega)⟩
         | (refine C9 rfl fun hw => ?_; obtain ⟨w1, w2, w3, w4, w5, w6, w7⟩ := hw; first | contradiction | omega | (have := w6 (by assumption); omega) | (obtain ⟨v1, v2, v3, v4⟩ := w7 i (by omega); first | contradiction | exact h8_2 v1 | exact v2 h8_9 | exact h8_14 v3 | (have h := h8_23; simp only [Int.toNat_natCast] at h; have := (J4 (ws := l.ws) (i := i) (by omega) rfl).2 v4; omega)))
       ·refine C4 j5 (C1 (off := 4) (s := 1) (r := false) j3 kz j3 ?_)
        (apply C5 (v := .sl _ _ _) j2; exact Q0; rfl; exact j5)
        refine H0 rfl rfl rfl j3 ?_
        refine V4 j6 ?_ ?_ <;> intro h3_11
        ·refine C0 (e := true) j6 (C0 (e := true) j6 (A3 (A1 (wT rfl (A2 (A0 (C6 j5 (A3 (A1 (A9 (B2 ?_)))))))))))
         first
          | exact D2 rfl ⟨by assumption, by omega, by assumption, by assumption, by omega, fun hq => by first | exact absurd hq (by assumption) | exact ⟨by omega, by omega⟩, fun j hj => hI.2.1 j (by omega)⟩
          | (refine C9 rfl fun hw => ?_; obtain ⟨w1, w2, w3, w4, w5, w6, w7⟩ := hw; first | contradiction | omega | (have := w6 (by assumption); omega) | (obtain ⟨v1, v2, v3, v4⟩ := w7 i (by omega); first | contradiction | exact h8_2 v1 | exact v2 h8_9 | exact h8_14 v3 | (have h := h8_23; simp only [Int.toNat_natCast] at h; have := (J4 (ws := l.ws) (i := i) (by omega) rfl).2 v4; omega)))
        ·refine C0 (e := false) j6 (C0 (e := false) j6 (A3 (A1 (wF rfl (B0 (A1 (A2 (A2 (A0 (C1 (off := 4) (s := 1) (r := false) j3 kz j3 ?_))))))))))
         (apply C5 (v := .sl _ _ _) j2; exact Q0; rfl; exact j5)
         refine H0 rfl rfl rfl j3 (B6 j5 (A3 (A1 (B3 (F0 ?_)))))
         refine E9 (fun (a : Nat × Nat) => [.unk, .unk, .ptr 0 0 0, .unk, .unk, .unk, .unk, .unk, .unk, .unk, .unk, .unk, .unk, .unk, .unk, .unk, .unk, .unk, .unk, .unk, .unk, .unk, .unk, .unk, .unk, .unk, .unk, .unk, .unk, .unk, .unk, .unk, .unk, .unk, .unk, .unk, .unk, .unk, .unk, .unk, .unk, .unk, .unk, .unk, .unk, .unk, .unk, .unk, .unk, .unk, .unk, .unk, .sl false nn (l.ws.map wtT), .int .i64 (l.ws.map wtT).length, .int .i64 a.1]) (fun (a : Nat × Nat) => hp [(0, ⟨[[.str l.nm, .int .i64 l.tk, .int .i64 l.hd, .int .i64 l.ex, .sl false nn (l.ws.map wtT)]], 5, 29⟩)]) (fun (a : Nat × Nat) => a.2) (fun (a : Nat × Nat) => a.1 ≤ l.ws.length ∧ (∀ j, j < a.1 → wOK l j) ∧ 1 ≤ a.2) (fun (a : Nat × Nat) => l.ws.length - a.1) (0, 1) ?_ ?_ ?_ ?_ ?_
         ·exact ⟨Nat.zero_le _, W5, Nat.le_refl _⟩
         ·(repeat first | exact LE.nil _ | refine LE.unk _ _ ?_ | refine LE.eq _ _ _ rfl ?_)
         ·(repeat first | exact E2 | (refine E3 ?_ ?_; exact S4))
         ·exact Nat.le_refl _
         intro ⟨i, m⟩ hI ih
         dsimp only at hI ⊢
         refine E8 (A2 (A0 ?_))
         refine I6 j6 ?_ ?_ <;> intro h6_0
         ·refine A3 (A1 (A2 (wT rfl (B0 (A1 (A2 (B3 (A2 ?_))))))))
          exfalso; omega
         ·refine A3 (A1 (A2 (wF rfl (E5 (E6 (D7 (C8 (A1 (A2 (A0 (C6 j5 (A3 ?_))))))))))))
          refine A1 (A9 ?_)
          first
           | exact D2 rfl ⟨by assumption, by omega, by assumption, by assumption, by omega, fun hq => by first | exact absurd hq (by assumption) | exact ⟨by omega, by omega⟩, fun j hj => hI.2.1 j (by omega)⟩
           | (refine C9 rfl fun hw => ?_; obtain ⟨w1, w2, w3, w4, w5, w6, w7⟩ := hw; first | contradiction | omega | (have := w6 (by assumption); omega) | (obtain ⟨v1, v2, v3, v4⟩ := w7 i (by omega); first | contradiction | exact h8_2 v1 | exact v2 h8_9 | exact h8_14 v3 | (have h := h8_23; simp only [Int.toNat_natCast] at h; have := (J4 (ws := l.ws) (i := i) (by omega) rfl).2 v4; omega)))
      ·refine C4 j5 (A4 j3 (A4 j3 (A4 j3 (A4 j3 (A4 j3 (A4 j3 (A4 j3 (A4 j3 (A4 j3 (C0 (e := false) j6 (A3 (A1 ?_))))))))))))
       refine wF rfl (B0 (A1 (A2 (A2 (A0 (C1 (off := 4) (s := 1) (r := false) j3 kz j3 ?_))))))
       (apply C5 (v := .sl _ _ _) j2; exact Q0; rfl; exact j5)
       refine H0 rfl rfl rfl j3 (B6 j5 (A3 (A1 (B3 (F0 ?_)))))
       refine E9 (fun (a : Nat × Nat) => [.unk, .unk, .ptr 0 0 0, .unk, .unk, .unk, .unk, .unk, .unk, .unk, .unk, .unk, .unk, .unk, .unk, .unk, .unk, .unk, .unk, .unk, .unk, .unk, .unk, .unk, .unk, .unk, .unk, .unk, .unk, .unk, .unk, .unk, .unk, .unk, .unk, .unk, .unk, .unk, .unk, .unk, .unk, .unk, .unk, .unk, .unk, .unk, .unk, .unk, .unk, .unk, .unk, .unk, .sl false nn (l.ws.map wtT), .int .i64 (l.ws.map wtT).length, .int .i64 a.1]) (fun (a : Nat × Nat) => hp [(0, ⟨[[.str l.nm, .int .i64 l.tk, .int .i64 l.hd, .int .i64 l.ex, .sl false nn (l.ws.map wtT)]], 5, 29⟩)]) (fun (a : Nat × Nat) => a.2) (fun (a : Nat × Nat) => a.1 ≤ l.ws.length ∧ (∀ j, j < a.1 → wOK l j) ∧ 1 ≤ a.2) (fun (a : Nat × Nat) => l.ws.length - a.1) (0, 1) ?_ ?_ ?_ ?_ ?_
       ·exact ⟨Nat.zero_le _, W5, Nat.le_refl _⟩
       ·(repeat first | exact LE.nil _ | refine LE.unk _ _ ?_ | refine LE.eq _ _ _ rfl ?_)
       ·(repeat first | exact E2 | (refine E3 ?_ ?_; exact S4))
       ·exact Nat.le_refl _
       intro ⟨i, m⟩ hI ih
       dsimp only at hI ⊢
       refine E8 (A2 (A0 ?_))
       refine I6 j6 ?_ ?_ <;> intro h6_0
       ·refine A3 (A1 (A2 (wT rfl (B0 (A1 (A2 (B3 (A2 (A0 (B6 j5 ?_))))))))))
        (apply N0 j4; exact Q4; (first | rfl | assumption | (exact D8 wtT (0, 0) (by omega))); exact j4)
        refine T7 (vs := [.int _ _, .int _ _]) j3 kb j4 (H3 j6 (D0 j5 ?_))
        (apply D4 (u := .agg [.int _ _, .int _ _]) j3; exact Q0; rfl; rfl; rfl; rfl; rfl; exact kb; rfl; exact j2)
        refine A3 (A1 (A2 (A0 (C1 (off := 0) (s := 1) (r := false) j3 kz j3 ?_))))
        (apply C5 (v := .int _ _) j2; exact Q0; rfl; exact j5)
        refine F3 (Z9 _ _ _) rfl j5 ?_ ?_ <;> intro h8_2
        ·refine D5 (c := true) j5 (C4 j5 (C1 (off := 0) (s := 1) (r := false) j3 kz j3 ?_))
         (apply C5 (v := .int _ _) j2; exact Q0; rfl; exact j5)
         refine C1 (off := 2) (s := 1) (r := false) j3 kz j3 ?_
         (apply C5 (v := .int _ _) j2; exact Q0; rfl; exact j5)
         refine H5 j6 ?_ ?_ <;> intro h8_9
         ·refine C0 (e := true) j6 (C4 j5 (A4 j3 (A4 j3 (A4 j3 (A4 j3 (C0 (e := true) j6 (C4 j5 (A4 j3 (A4 j3 (A4 j3 (A4 j3 (A4 j3 ?_))))))))))))
          refine A4 j3 (C0 (e := true) j6 (A3 (A1 (wT rfl (A2 (A0 (C6 j5 (A3 (A1 (A9 (B4 (B2 ?_))))))))))))
          refine I4 (B4 (B2 ?_))
          first
           | exact D2 rfl ⟨by assumption, by omega, by assumption, by assumption, by omega, fun hq => by first | exact absurd hq (by assumption) | exact ⟨by omega, by omega⟩, fun j hj => hI.2.1 j (by omega)⟩
           | (refine C9 rfl fun hw => ?_; obtain ⟨w1, w2, w3, w4, w5, w6, w7⟩ := hw; first | contradiction | omega | (have := w6 (by assumption); omega) | (obtain ⟨v1, v2, v3, v4⟩ := w7 i (by omega); first | contradiction | exact h8_2 v1 | exact v2 h8_9 | exact h8_14 v3 | (have h := h8_23; simp only [Int.toNat_natCast] at h; have := (J4 (ws := l.ws) (i := i) (by omega) rfl).2 v4; omega)))
         ·refine C0 (e := false) j6 (C4 j5 (C1 (off := 1) (s := 1) (r := false) j3 kz j3 ?_))
          (apply C5 (v := .int _ _) j2; exact Q0; rfl; exact j5)
          refine F3 (Z9 _ _ _) rfl j5 ?_ ?_ <;> intro h8_14
          ·refine D5 (c := true) j5 (C0 (e := false) j6 (C4 j5 ?_))
           (apply F9 (vs := [.str _, .int _ _, .int _ _, .int _ _, _]) j2; exact Q0; rfl; rfl; exact kb; rfl; exact j3)
           refine C1 (off := 0) (s := 1) (r := false) j3 kz j3 ?_
           (apply C5 (v := .int _ _) j2; exact Q0; rfl; exact j5)
           refine AB (p66 l nn _ (by omega)) rfl j5 ?_
           refine B6 j5 ?_
           refine I6 j6 ?_ ?_ <;> intro h8_23
           ·refine C0 (e := true) j6 (A3 (A1 (wT rfl (A2 (A0 (C6 j5 (A3 (A1 (A9 (B4 (B2 (I4 ?_))))))))))))
            refine B4 (B2 ?_)
            first
             | exact D2 rfl ⟨by assumption, by omega, by assumption, by assumption, by omega, fun hq => by first | exact absurd hq (by assumption) | exact ⟨by omega, by omega⟩, fun j hj => hI.2.1 j (by omega)⟩
             | (refine C9 rfl fun hw => ?_; obtain ⟨w1, w2, w3, w4, w5, w6, w7⟩ := hw; first | contradiction | omega | (have := w6 (by assumption); omega) | (obtain ⟨v1, v2, v3, v4⟩ := w7 i (by omega); first | contradiction | exact h8_2 v1 | exact v2 h8_9 | exact h8_14 v3 | (have h := h8_23; simp only [Int.toNat_natCast] at h; have := (J4 (ws := l.ws) (i := i) (by omega) rfl).2 v4; omega)))
           ·refine C0 (e := false) j6 (A3 (A1 (wF rfl (B0 (B7 (A1 (A0 (C3 j3 ?_ ?_ j3 ?_))))))))
            ·exact Q4
            ·exact Q4
            refine B6 j5 (A3 (D1 ?_))
            exact H4 (ih (i + 1, m + 1) ⟨by dsimp only; omega, U7 hI.2.1 ⟨h8_2, h8_9, h8_14, (J4 (ws := l.ws) (i := i) (by omega) rfl).1 (by have h := h8_23; simp only [Int.toNat_natCast] at h; omega)⟩, by dsimp only; omega⟩ (by dsimp only; omega)) (by (repeat first | exact LE.nil _ | refine LE.unk _ _ ?_ | refine LE.eq _ _ _ rfl ?_)) (by (repeat first | exact E2 | (refine E3 ?_ ?_; exact S4))) (Nat.le_refl _)
          ·refine D5 (c := false) j5 (C0 (e := true) j6 (C4 j5 (A4 j3 (A4 j3 (A4 j3 (A4 j3 (A4 j3 (A4 j3 (C0 (e := true) j6 (A3 (A1 (wT rfl ?_))))))))))))
           refine A2 (A0 (C6 j5 (A3 (A1 (A9 (B4 (B2 (I4 (B4 (B2 ?_))))))))))
           first
            | exact D2 rfl ⟨by assumption, by omega, by assumption, by assumption, by omega, fun hq => by first | exact absurd hq (by assumption) | exact ⟨by omega, by omega⟩, fun j hj => hI.2.1 j (by omega)⟩
            | (refine C9 rfl fun hw => ?_; obtain ⟨w1, w2, w3, w4, w5, w6, w7⟩ := hw; first | contradiction | omega | (have := w6 (by assumption); omega) | (obtain ⟨v1, v2, v3, v4⟩ := w7 i (by omega); first | contradiction | exact h8_2 v1 | exact v2 h8_9 | exact h8_14 v3 | (have h := h8_23; simp only [Int.toNat_natCast] at h; have := (J4 (ws := l.ws) (i := i) (by omega) rfl).2 v4; omega)))
        ·refine D5 (c := false) j5 (C4 j5 (A4 j3 (A4 j3 (A4 j3 (A4 j3 (A4 j3 (C0 (e := true) j6 (C4 j5 (A4 j3 (A4 j3 (A4 j3 (A4 j3 ?_))))))))))))
         refine C0 (e := true) j6 (C4 j5 (A4 j3 (A4 j3 (A4 j3 (A4 j3 (A4 j3 (A4 j3 (C0 (e := true) j6 (A3 (A1 (wT rfl (A2 ?_))))))))))))
         refine A0 (C6 j5 (A3 (A1 (A9 (B4 (B2 (I4 (B4 (B2 ?_)))))))))
         first
          | exact D2 rfl ⟨by assumption, by omega, by assumption, by assumption, by omega, fun hq => by first | exact absurd hq (by assumption) | exact ⟨by omega, by omega⟩, fun j hj => hI.2.1 j (by omega)⟩
          | (refine C9 rfl fun hw => ?_; obtain ⟨w1, w2, w3, w4, w5, w6, w7⟩ := hw; first | contradiction | omega | (have := w6 (by assumption); omega) | (obtain ⟨v1, v2, v3, v4⟩ := w7 i (by omega); first | contradiction | exact h8_2 v1 | exact v2 h8_9 | exact h8_14 v3 | (have h := h8_23; simp only [Int.toNat_natCast] at h; have := (J4 (ws := l.ws) (i := i) (by omega) rfl).2 v4; omega)))
       ·refine A3 (A1 (A2 (wF rfl (E5 (E6 (D7 (C8 (A1 (A2 (A0 (C6 j5 (A3 ?_))))))))))))
        refine A1 (A9 ?_)
        first
         | exact D2 rfl ⟨by assumption, by omega, by assumption, by assumption, by omega, fun hq => by first | exact absurd hq (by assumption) | exact ⟨by omega, by omega⟩, fun j hj => hI.2.1 j (by omega)⟩
         | (refine C9 rfl fun hw => ?_; obtain ⟨w1, w2, w3, w4, w5, w6, w7⟩ := hw; first | contradiction | omega | (have := w6 (by assumption); omega) | (obtain ⟨v1, v2, v3, v4⟩ := w7 i (by omega); first | contradiction | exact h8_2 v1 | exact v2 h8_9 | exact h8_14 v3 | (have h := h8_23; simp only [Int.toNat_natCast] at h; have := (J4 (ws := l.ws) (i := i) (by omega) rfl).2 v4; omega)))
    ·refine D5 (c := false) j5 (C0 (e := true) j6 (C4 j5 (A4 j3 (A4 j3 (A4 j3 (A4 j3 (C0 (e := true) j6 (A3 (A1 (wT rfl (A2 (A0 ?_))))))))))))
     refine C6 j5 (A3 (A1 (A9 (B2 ?_))))
     first
      | exact D2 rfl ⟨by assumption, by omega, by assumption, by assumption, by omega, fun hq => by first | exact absurd hq (by assumption) | exact ⟨by omega, by omega⟩, fun j hj => hI.2.1 j (by omega)⟩
      | (refine C9 rfl fun hw => ?_; obtain ⟨w1, w2, w3, w4, w5, w6, w7⟩ := hw; first | contradiction | omega | (have := w6 (by assumption); omega) | (obtain ⟨v1, v2, v3, v4⟩ := w7 i (by omega); first | contradiction | exact h8_2 v1 | exact v2 h8_9 | exact h8_14 v3 | (have h := h8_23; simp only [Int.toNat_natCast] at h; have := (J4 (ws := l.ws) (i := i) (by omega) rfl).2 v4; omega)))
   ·refine D5 (c := false) j5 (C0 (e := true) j6 (C4 j5 (A4 j3 (A4 j3 (A4 j3 (A4 j3 (C0 (e := true) j6 (C4 j5 (A4 j3 (A4 j3 (A4 j3 (A4 j3 ?_))))))))))))
    refine C0 (e := true) j6 (A3 (A1 (wT rfl (A2 (A0 (C6 j5 (A3 (A1 (A9 (B2 ?_))))))))))
    first
     | exact D2 rfl ⟨by assumption, by omega, by assumption, by assumption, by omega, fun hq => by first | exact absurd hq (by assumption) | exact ⟨by omega, by omega⟩, fun j hj => hI.2.1 j (by omega)⟩
     | (refine C9 rfl fun hw => ?_; obtain ⟨w1, w2, w3, w4, w5, w6, w7⟩ := hw; first | contradiction | omega | (have := w6 (by assumption); omega) | (obtain ⟨v1, v2, v3, v4⟩ := w7 i (by omega); first | contradiction | exact h8_2 v1 | exact v2 h8_9 | exact h8_14 v3 | (have h := h8_23; simp only [Int.toNat_natCast] at h; have := (J4 (ws := l.ws) (i := i) (by omega) rfl).2 v4; omega)))
  ·refine D5 (c := false) j5 (C0 (e := true) j6 (C4 j5 (A4 j3 (A4 j3 (A4 j3 (A4 j3 (C0 (e := true) j6 (C4 j5 (A4 j3 (A4 j3 (A4 j3 (A4 j3 ?_))))))))))))
   refine C0 (e := true) j6 (C4 j5 (A4 j3 (A4 j3 (A4 j3 (A4 j3 (C0 (e := true) j6 (A3 (A1 (wT rfl (A2 (A0 (C6 j5 ?_))))))))))))
   refine A3 (A1 (A9 (B2 ?_)))
   first
    | exact D2 rfl ⟨by assumption, by omega, by assumption, by assumption, by omega, fun hq => by first | exact absurd hq (by assumption) | exact ⟨by omega, by omega⟩, fun j hj => hI.2.1 j (by omega)⟩
    | (refine C9 rfl fun hw => ?_; obtain ⟨w1, w2, w3, w4, w5, w6, w7⟩ := hw; first | contradiction | omega | (have := w6 (by assumption); omega) | (obtain ⟨v1, v2, v3, v4⟩ := w7 i (by omega); first | contradiction | exact h8_2 v1 | exact v2 h8_9 | exact h8_14 v3 | (have h := h8_23; simp only [Int.toNat_natCast] at h; have := (J4 (ws := l.ws) (i := i) (by omega) rfl).2 v4; omega)))
 ·refine D5 (c := false) j5 (C4 j5 (A4 j3 (A4 j3 (A4 j3 (A4 j3 (A4 j3 (A4 j3 (C0 (e := true) j6 (C4 j5 (A4 j3 (A4 j3 (A4 j3 ?_))))))))))))
  refine A4 j3 (C0 (e := true) j6 (C4 j5 (A4 j3 (A4 j3 (A4 j3 (A4 j3 (C0 (e := true) j6 (C4 j5 (A4 j3 (A4 j3 (A4 j3 (A4 j3 ?_))))))))))))
  refine C0 (e := true) j6 (A3 (A1 (wT rfl (A2 (A0 (C6 j5 (A3 (A1 (A9 (B2 ?_))))))))))
  first
   | exact D2 rfl ⟨by assumption, by omega, by assumption, by assumption, by omega, fun hq => by first | exact absurd hq (by assumption) | exact ⟨by omega, by omega⟩, fun j hj => hI.2.1 j (by omega)⟩
   | (refine C9 rfl fun hw => ?_; obtain ⟨w1, w2, w3, w4, w5, w6, w7⟩ := hw; first | contradiction | omega | (have := w6 (by assumption); omega) | (obtain ⟨v1, v2, v3, v4⟩ := w7 i (by omega); first | contradiction | exact h8_2 v1 | exact v2 h8_9 | exact h8_14 v3 | (have h := h8_23; simp only [Int.toNat_natCast] at h; have := (J4 (ws := l.ws) (i := i) (by omega) rfl).2 v4; omega)))
open Go.V
set_option linter.unusedVariables false
set_option linter.unusedSimpArgs false
set_option maxRecDepth 20000
set_option maxHeartbeats 4000000
theorem p47 (a : An) : Pure En 79 [.agg a.T] [.one (.bool (decide a.OK))] := by
 refine Pure.of_wp Try.func79 rfl kb ?_
 refine A2 (A0 (L7 (u := .agg [.int _ _, .int _ _, .int _ _, .int _ _]) j3 rfl j3 (C6 j5 (A3 (A1 (A2 (A0 (C1 (off := 0) (s := 1) (r := false) j3 kz j3 (C5 (v := .int _ _) j2 rfl rfl j5 ?_)))))))))
 refine F3 (Z9 _ _ _) rfl j5 ?_ ?_ <;> intro h1_2
 ·refine C4 j5 (C1 (off := 1) (s := 1) (r := false) j3 kz j3 (C5 (v := .int _ _) j2 rfl rfl j5 ?_))
  refine F3 (Z9 _ _ _) rfl j5 ?_ ?_ <;> intro h1_6
  ·refine C0 (e := true) j6 (C4 j5 (C1 (off := 2) (s := 1) (r := false) j3 kz j3 (C5 (v := .int _ _) j2 rfl rfl j5 ?_)))
   refine F3 (Z9 _ _ _) rfl j5 ?_ ?_ <;> intro h1_11
   ·refine C0 (e := true) j6 (C4 j5 (C1 (off := 3) (s := 1) (r := false) j3 kz j3 (C5 (v := .int _ _) j2 rfl rfl j5 ?_)))
    refine F3 (Z9 _ _ _) rfl j5 ?_ ?_ <;> intro h1_16
    ·refine C0 (e := true) j6 (C6 j5 (A3 (A1 (A9 ?_))))
     first | (refine D2 rfl ?_; unfold An.OK; omega) | (refine C9 rfl ?_; unfold An.OK; omega)
    ·refine C0 (e := false) j6 (C6 j5 (A3 (A1 (A9 ?_))))
     first | (refine D2 rfl ?_; unfold An.OK; omega) | (refine C9 rfl ?_; unfold An.OK; omega)
   ·refine C0 (e := false) j6 (C4 j5 (A4 j3 (A4 j3 (A4 j3 (C0 (e := false) j6 (C6 j5 (A3 (A1 (A9 ?_)))))))))
    first | (refine D2 rfl ?_; unfold An.OK; omega) | (refine C9 rfl ?_; unfold An.OK; omega)
  ·refine C0 (e := false) j6 (C4 j5 (A4 j3 (A4 j3 (A4 j3 (C0 (e := false) j6 (C4 j5 (A4 j3 (A4 j3 (A4 j3 (C0 (e := false) j6 (C6 j5 (A3 ?_))))))))))))
   refine A1 (A9 ?_)
   first | (refine D2 rfl ?_; unfold An.OK; omega) | (refine C9 rfl ?_; unfold An.OK; omega)
 ·refine C4 j5 (A4 j3 (A4 j3 (A4 j3 (C0 (e := false) j6 (C4 j5 (A4 j3 (A4 j3 (A4 j3 (C0 (e := false) j6 (C4 j5 (A4 j3 (A4 j3 ?_))))))))))))
  refine A4 j3 (C0 (e := false) j6 (C6 j5 (A3 (A1 (A9 ?_)))))
  first | (refine D2 rfl ?_; unfold An.OK; omega) | (refine C9 rfl ?_; unfold An.OK; omega)
def ltS (a b : ByteArray) : Prop := Op.bytesLess a.toList b.toList = true
def lkAt (t : Tb) (i : Nat) : Prop := (t.lk.getD i Lk0).OK t.nx ∧ (0 < i → ltS (t.lk.getD (i - 1) Lk0).nm (t.lk.getD i Lk0).nm)
def Sn.OK (s : Sn) : Prop := (0 ≤ s.cl ∧ s.cl ≤ 255) ∧ (1 ≤ s.st ∧ s.st ≤ 65535) ∧ s.an.OK
def snAt (t : Tb) (i : Nat) : Prop := (t.sn.getD i Sn0).OK ∧ (0 < i → (t.sn.getD (i - 1) Sn0).cl < (t.sn.getD i Sn0).cl)
def Tb.OK (t : Tb) : Prop := (0 ≤ t.tm ∧ t.tm ≤ 1000000000) ∧ (1 ≤ t.nx ∧ t.nx ≤ 1000000) ∧ t.lk.length ≤ 4 ∧ t.sn.length ≤ 6 ∧ (∀ i, i < t.lk.length → lkAt t i) ∧ ∀ i, i < t.sn.length → snAt t i
noncomputable instance (t : Tb) : Decidable t.OK := Classical.propDecidable _
theorem J0 (i : Nat) : ((i : Int) - 1).toNat = i - 1 := by omega
theorem p23 (t : Tb) (b n1 n2 : Bool) : Pure En 35 [.agg (t.T b n1 n2)] [.one (.bool (decide t.OK))] := by
 have hl : (t.lk.map (Lk.T b)).length = t.lk.length := List.length_map ..
 have hl2 : (t.sn.map Sn.T).length = t.sn.length := List.length_map ..
 refine Pure.of_wp Try.func35 rfl kb ?_
 refine A2 (A0 (L7 (u := .agg [.int _ _, .int _ _, _, _]) j3 rfl j3 (C6 j5 (A3 (A1 (A2 (A2 (A0 (C1 (off := 0) (s := 1) (r := false) j3 kz j3 ?_)))))))))
 (apply C5 (v := .int _ _) j2; exact Q0; rfl; exact j5)
 refine F3 (Z9 _ _ _) rfl j5 ?_ ?_ <;> intro h1_2
 ·refine D5 (c := true) j5 (C4 j5 (C1 (off := 1) (s := 1) (r := false) j3 kz j3 ?_))
  (apply C5 (v := .int _ _) j2; exact Q0; rfl; exact j5)
  refine F3 (Z9 _ _ _) rfl j5 ?_ ?_ <;> intro h1_7
  ·refine D5 (c := true) j5 (C0 (e := false) j6 (C4 j5 (C1 (off := 2) (s := 1) (r := false) j3 kz j3 ?_)))
   (apply C5 (v := .sl _ _ _) j2; exact Q0; rfl; exact j5)
   refine H0 rfl rfl rfl j3 ?_
   refine V4 j6 ?_ ?_ <;> intro h1_14
   ·refine C0 (e := true) j6 (C4 j5 (A4 j3 (A4 j3 (A4 j3 (A4 j3 (C0 (e := true) j6 (A3 (A1 (wT rfl (A2 (A0 (C6 j5 ?_))))))))))))
    refine A3 (A1 (A9 (B2 ?_)))
    (refine C9 rfl fun hw => ?_; obtain ⟨w1, w2, w3, w4, w5, w6⟩ := hw; first | contradiction | omega)
   ·refine C0 (e := false) j6 (C4 j5 (C1 (off := 3) (s := 1) (r := false) j3 kz j3 ?_))
    (apply C5 (v := .sl _ _ _) j2; exact Q0; rfl; exact j5)
    refine H0 rfl rfl rfl j3 ?_
    refine V4 j6 ?_ ?_ <;> intro h1_20
    ·refine C0 (e := true) j6 (A3 (A1 (wT rfl (A2 (A0 (C6 j5 (A3 (A1 (A9 (B2 ?_))))))))))
     (refine C9 rfl fun hw => ?_; obtain ⟨w1, w2, w3, w4, w5, w6⟩ := hw; first | contradiction | omega)
    ·refine C0 (e := false) j6 (A3 (A1 (wF rfl (B0 (A1 (A2 (A2 (A0 (C1 (off := 2) (s := 1) (r := false) j3 kz j3 ?_)))))))))
     (apply C5 (v := .sl _ _ _) j2; exact Q0; rfl; exact j5)
     refine H0 rfl rfl rfl j3 (B6 j5 (A3 (A1 (B3 (F0 ?_)))))
     refine E9 (fun (a : Nat × Nat) => [.unk, .ptr 0 0 0, .unk, .unk, .unk, .unk, .unk, .unk, .unk, .unk, .unk, .unk, .unk, .unk, .unk, .unk, .unk, .unk, .unk, .unk, .unk, .unk, .unk, .unk, .unk, .unk, .unk, .unk, .unk, .unk, .sl false n1 (t.lk.map (Lk.T b)), .int .i64 (t.lk.map (Lk.T b)).length, .int .i64 a.1]) (fun (a : Nat × Nat) => hp [(0, ⟨[[.int .i64 t.tm, .int .i64 t.nx, .sl false n1 (t.lk.map (Lk.T b)), .sl false n2 (t.sn.map Sn.T)]], 4, 35⟩)]) (fun (a : Nat × Nat) => a.2) (fun (a : Nat × Nat) => a.1 ≤ t.lk.length ∧ (∀ j, j < a.1 → lkAt t j) ∧ 1 ≤ a.2) (fun (a : Nat × Nat) => t.lk.length - a.1) (0, 1) ?_ ?_ ?_ ?_ ?_
     ·exact ⟨Nat.zero_le _, W5, Nat.le_refl _⟩
     ·(repeat first | exact LE.nil _ | refine LE.unk _ _ ?_ | refine LE.eq _ _ _ rfl ?_)
     ·(repeat first | exact E2 | (refine E3 ?_ ?_; exact S4))
     ·exact Nat.le_refl _
     intro ⟨i0, m⟩ hI ih
     dsimp only at hI ⊢
     have hK := hI
     refine E8 (A2 (A0 ?_))
     refine I6 j6 ?_ ?_ <;> intro h4_0
     ·refine A3 (A1 (A2 (wT rfl (B0 (A1 (A2 (B3 (A2 (A0 (B6 j5 ?_))))))))))
      (apply N0 j4; exact Q4; (first | rfl | assumption | (first | exact D8 (Lk.T b) Lk0 (by omega) | exact D8 Sn.T Sn0 (by omega))); exact j4)
      refine T7 (vs := [.str _, .int _ _, .int _ _, .int _ _, _]) j3 kb j4 (H3 j6 (D0 j5 ?_))
      (apply D4 (u := .agg [.str _, .int _ _, .int _ _, .int _ _, _]) j3; exact Q0; rfl; rfl; rfl; rfl; rfl; exact kb; rfl; exact j2)
      refine A3 (A1 (A2 (C2 [0, 0, 2, 7, 15, 31, 63, 127, 255, 511, 1023, 511, 2559, 8191, 16383, 32767, 511, 66047, 262143, 524287, 1048575] rfl (by decide +kernel) ?_)))
      (apply L8 (vs := [.str _, .int _ _, .int _ _, .int _ _, _]) j2; exact Q0; rfl; rfl; exact kb; exact j4)
      refine D6 (off := 1) (s := 1) (r := false) j3 kz j3 ?_
      (apply E1 (v := .int _ _) j2; exact Q0; rfl; exact j5)
      refine dclP (p46 (t.lk.getD i0 Lk0) b t.nx (by omega)) rfl j5 ?_ ?_ <;> intro h6_3
      ·refine dnot (c := true) j5 (H8 j5 (I0 j5 ?_))
       refine dgt j6 ?_ ?_ <;> intro h6_7
       ·refine H8 j5 (D6 (off := 2) (s := 1) (r := false) j3 kz j3 ?_)
        (apply E1 (v := .sl _ _ _) j2; exact Q0; rfl; exact j5)
        refine I0 j5 (dsubF j3 ?_ ?_ j3 ?_)
        ·exact Q4
        ·exact Q4
        (apply K6 j4; exact Q4; (first | rfl | assumption | (first | exact D8 (Lk.T b) Lk0 (by omega) | exact D8 Sn.T Sn0 (by omega))); exact j4)
        refine U6 (off := 0) (s := 1) (r := false) j3 kz j4 (N1 (v := .str _) j8 (D6 (off := 0) (s := 1) (r := false) j3 kz j3 ?_))
        (apply E1 (v := .str _) j2; exact Q0; rfl; exact j5)
        refine dsge j6 ?_ ?_ <;> intro h6_18
        ·refine G5 (e := true) j6 (G5 (e := true) j6 (B1 21 [0, 0, 0, 1, 0, 0, 0, 0, 0, 0, 1, 0, 0, 0, 0, 0, 0, 0, 1, 0, 1] [] j2 (by decide +kernel) trivial ?_))
         refine A1 (wT rfl (A2 (A0 (C6 j5 (A3 (A1 (A9 (B4 (B2 (I4 (B4 (B2 ?_))))))))))))
         (refine C9 rfl fun hw => ?_; obtain ⟨w1, w2, w3, w4, w5, w6⟩ := hw; obtain ⟨v1, v2⟩ := w5 i0 (by omega); first | exact h6_3 v1 | (have v3 := v2 (by omega); unfold ltS at v3; rw [J0, Int.toNat_natCast, v3] at h6_18; cases h6_18))
        ·refine G5 (e := false) j6 (G5 (e := false) j6 (B1 21 [0, 0, 0, 1, 0, 0, 0, 0, 0, 0, 1, 0, 0, 0, 0, 0, 0, 0, 1, 0, 1] [] j2 (by decide +kernel) trivial ?_))
         refine A1 (wF rfl (B0 (B7 (A1 (A0 (C3 j3 ?_ ?_ j3 ?_))))))
         ·exact Q4
         ·exact Q4
         refine B6 j5 (A3 (D1 ?_))
         exact H4 (ih (i0 + 1, m + 1) ⟨by dsimp only; omega, U7 hI.2.1 ⟨h6_3, fun h0 => by first | omega | (rw [J0] at h6_18; unfold ltS; simpa using h6_18)⟩, by dsimp only; omega⟩ (by dsimp only; omega)) (by (repeat first | exact LE.nil _ | refine LE.unk _ _ ?_ | refine LE.eq _ _ _ rfl ?_)) (by (repeat first | exact E2 | (refine E3 ?_ ?_; exact S4))) (Nat.le_refl _)
       ·refine H8 j5 (A6 j3 (A6 j3 (A6 j3 (A6 j3 (A6 j3 (A6 j3 (A6 j3 (A6 j3 (A6 j3 (A6 j3 (G5 (e := false) j6 (G5 (e := false) j6 ?_))))))))))))
        refine B1 21 [0, 0, 0, 0, 0, 0, 0, 0, 0, 0, 0, 0, 0, 0, 0, 0, 0, 0, 1, 0, 1] [] j2 (by decide +kernel) trivial ?_
        refine A1 (wF rfl (B0 (B7 (A1 (A0 (C3 j3 ?_ ?_ j3 ?_))))))
        ·exact Q4
        ·exact Q4
        refine B6 j5 (A3 (D1 ?_))
        exact H4 (ih (i0 + 1, m + 1) ⟨by dsimp only; omega, U7 hI.2.1 ⟨h6_3, fun h0 => by first | omega | (rw [J0] at h6_18; unfold ltS; simpa using h6_18)⟩, by dsimp only; omega⟩ (by dsimp only; omega)) (by (repeat first | exact LE.nil _ | refine LE.unk _ _ ?_ | refine LE.eq _ _ _ rfl ?_)) (by (repeat first | exact E2 | (refine E3 ?_ ?_; exact S4))) (Nat.le_refl _)
      ·refine dnot (c := false) j5 (H8 j5 (A6 j3 (A6 j3 (A6 j3 (A6 j3 (A6 j3 (A6 j3 (A6 j3 (A6 j3 (A6 j3 (A6 j3 (A6 j3 ?_))))))))))))
       refine A6 j3 (A6 j3 (A6 j3 (G5 (e := true) j6 (B1 21 [0, 0, 0, 0, 0, 0, 0, 0, 0, 0, 0, 0, 0, 0, 0, 0, 0, 0, 1, 0, 1] [] j2 (by decide +kernel) trivial ?_))))
       refine A1 (wT rfl (A2 (A0 (C6 j5 (A3 (A1 (A9 (B4 (B2 (I4 (B4 (B2 ?_))))))))))))
       (refine C9 rfl fun hw => ?_; obtain ⟨w1, w2, w3, w4, w5, w6⟩ := hw; obtain ⟨v1, v2⟩ := w5 i0 (by omega); first | exact h6_3 v1 | (have v3 := v2 (by omega); unfold ltS at v3; rw [J0, Int.toNat_natCast, v3] at h6_18; cases h6_18))
     ·refine A3 (A1 (A2 (wF rfl (E5 (E6 (D7 (C8 (A1 (A2 (A2 (A0 (C1 (off := 3) (s := 1) (r := false) j3 kz j3 ?_))))))))))))
      (apply C5 (v := .sl _ _ _) j2; exact Q0; rfl; exact j5)
      refine H0 rfl rfl rfl j3 (B6 j5 (A3 (A1 (B3 (F0 ?_)))))
      refine E9 (fun (a : Nat × Nat) => [.unk, .ptr 0 0 0, .unk, .unk, .unk, .unk, .unk, .unk, .unk, .unk, .unk, .unk, .unk, .unk, .unk, .unk, .unk, .unk, .unk, .unk, .unk, .unk, .unk, .unk, .unk, .unk, .unk, .unk, .unk, .unk, .unk, .unk, .unk, .unk, .unk, .unk, .unk, .unk, .unk, .unk, .unk, .unk, .unk, .unk, .unk, .unk, .unk, .unk, .unk, .unk, .unk, .unk, .unk, .unk, .unk, .unk, .unk, .unk, .unk, .unk, .sl false n2 (t.sn.map Sn.T), .int .i64 (t.sn.map Sn.T).length, .int .i64 a.1]) (fun (a : Nat × Nat) => hp [(0, ⟨[[.int .i64 t.tm, .int .i64 t.nx, .sl false n1 (t.lk.map (Lk.T b)), .sl false n2 (t.sn.map Sn.T)]], 4, 35⟩)]) (fun (a : Nat × Nat) => a.2) (fun (a : Nat × Nat) => a.1 ≤ t.sn.length ∧ (∀ j, j < a.1 → snAt t j) ∧ 1 ≤ a.2) (fun (a : Nat × Nat) => t.sn.length - a.1) (0, m) ?_ ?_ ?_ ?_ ?_
      ·exact ⟨Nat.zero_le _, W5, hI.2.2⟩
      ·(repeat first | exact LE.nil _ | refine LE.unk _ _ ?_ | refine LE.eq _ _ _ rfl ?_)
      ·(repeat first | exact E2 | (refine E3 ?_ ?_; exact S4))
      ·exact Nat.le_refl _
      intro ⟨i, m⟩ hI ih
      dsimp only at hI ⊢
      refine E8 (A2 (A0 ?_))
      refine I6 j6 ?_ ?_ <;> intro h10_0
      ·refine A3 (A1 (A2 (wT rfl (B0 (A1 (A2 (B3 (A2 (A0 (B6 j5 ?_))))))))))
       (apply N0 j4; exact Q4; (first | rfl | assumption | (first | exact D8 (Lk.T b) Lk0 (by omega) | exact D8 Sn.T Sn0 (by omega))); exact j4)
       refine T7 (vs := [.int _ _, .int _ _, .int _ _, .int _ _, .int _ _, .int _ _]) j3 kb j4 (H3 j6 (D0 j5 ?_))
       (apply D4 (u := .agg [.int _ _, .int _ _, .int _ _, .int _ _, .int _ _, .int _ _]) j3; exact Q0; rfl; rfl; rfl; rfl; rfl; exact kb; rfl; exact j2)
       refine A3 (A1 (A2 (C2 [0, 1, 3, 7, 15, 31, 63, 127, 255, 511, 1023, 2047, 4095, 8191, 16383, 32767, 65535, 131071, 262143, 524287, 1048575, 2097151, 1048575, 5242879, 16777215, 33554431, 67108863, 1048575, 135266303, 536870911, 1073741823, 2147483647] rfl (by decide +kernel) ?_)))
       refine D6 (off := 0) (s := 1) (r := false) j3 kz j3 ?_
       (apply E1 (v := .int _ _) j2; exact Q0; rfl; exact j5)
       refine dclP (Z9 _ _ _) rfl j5 ?_ ?_ <;> intro h12_2
       ·refine dnot (c := true) j5 (H8 j5 (D6 (off := 1) (s := 1) (r := false) j3 kz j3 ?_))
        (apply E1 (v := .int _ _) j2; exact Q0; rfl; exact j5)
        refine dclP (Z9 _ _ _) rfl j5 ?_ ?_ <;> intro h12_7
        ·refine dnot (c := true) j5 (G5 (e := false) j6 (H8 j5 (D6 (off := 2) (s := 4) (r := true) j3 kz j3 ?_)))
         (apply L8 (vs := [.int _ _, .int _ _, .int _ _, .int _ _]) j2; exact Q0; rfl; rfl; exact kb; exact j4)
         refine dclP (p47 (t.sn.getD i Sn0).an) rfl j5 ?_ ?_ <;> intro h12_13
         ·refine dnot (c := true) j5 (G5 (e := false) j6 (H8 j5 (I0 j5 ?_)))
          refine dgt j6 ?_ ?_ <;> intro h12_18
          ·refine H8 j5 (D6 (off := 3) (s := 1) (r := false) j3 kz j3 ?_)
           (apply E1 (v := .sl _ _ _) j2; exact Q0; rfl; exact j5)
           refine I0 j5 (dsubF j3 ?_ ?_ j3 ?_)
           ·exact Q4
           ·exact Q4
           (apply K6 j4; exact Q4; (first | rfl | assumption | (first | exact D8 (Lk.T b) Lk0 (by omega) | exact D8 Sn.T Sn0 (by omega))); exact j4)
           refine U6 (off := 0) (s := 1) (r := false) j3 kz j4 (N1 (v := .int _ _) j8 (D6 (off := 0) (s := 1) (r := false) j3 kz j3 ?_))
           (apply E1 (v := .int _ _) j2; exact Q0; rfl; exact j5)
           refine dge j6 ?_ ?_ <;> intro h12_29
           ·refine G5 (e := true) j6 (G5 (e := true) j6 (B1 32 [0, 0, 0, 1, 0, 0, 0, 0, 0, 0, 1, 0, 0, 0, 0, 0, 0, 0, 0, 1, 0, 0, 0, 0, 0, 1, 0, 0, 0, 0, 1, 0] [] j2 (by decide +kernel) trivial ?_))
            refine A1 (wT rfl (A2 (A0 (C6 j5 (A3 (A1 (A9 (B4 (B2 (I4 (B4 (B2 ?_))))))))))))
            (refine C9 rfl fun hw => ?_; obtain ⟨w1, w2, w3, w4, w5, w6⟩ := hw; obtain ⟨⟨v1, v2, v3⟩, v4⟩ := w6 i (by omega); first | exact h12_2 v1 | exact h12_7 v2 | exact h12_13 v3 | (have v5 := v4 (by omega); rw [J0] at h12_29; exact Int.not_le.mpr v5 h12_29))
           ·refine G5 (e := false) j6 (G5 (e := false) j6 (B1 32 [0, 0, 0, 1, 0, 0, 0, 0, 0, 0, 1, 0, 0, 0, 0, 0, 0, 0, 0, 1, 0, 0, 0, 0, 0, 1, 0, 0, 0, 0, 1, 0] [] j2 (by decide +kernel) trivial ?_))
            refine A1 (wF rfl (B0 (B7 (A1 (A0 (C3 j3 ?_ ?_ j3 ?_))))))
            ·exact Q4
            ·exact Q4
            refine B6 j5 (A3 (D1 ?_))
            exact H4 (ih (i + 1, m + 1) ⟨by dsimp only; omega, U7 hI.2.1 ⟨⟨h12_2, h12_7, h12_13⟩, fun h0 => by first | omega | (rw [J0] at h12_29; exact Int.not_le.mp h12_29)⟩, by dsimp only; omega⟩ (by dsimp only; omega)) (by (repeat first | exact LE.nil _ | refine LE.unk _ _ ?_ | refine LE.eq _ _ _ rfl ?_)) (by (repeat first | exact E2 | (refine E3 ?_ ?_; exact S4))) (Nat.le_refl _)
          ·refine H8 j5 (A6 j3 (A6 j3 (A6 j3 (A6 j3 (A6 j3 (A6 j3 (A6 j3 (A6 j3 (A6 j3 (A6 j3 (G5 (e := false) j6 (G5 (e := false) j6 ?_))))))))))))
           refine B1 32 [0, 0, 0, 0, 0, 0, 0, 0, 0, 0, 0, 0, 0, 0, 0, 0, 0, 0, 0, 1, 0, 0, 0, 0, 0, 1, 0, 0, 0, 0, 1, 0] [] j2 (by decide +kernel) trivial ?_
           refine A1 (wF rfl (B0 (B7 (A1 (A0 (C3 j3 ?_ ?_ j3 ?_))))))
           ·exact Q4
           ·exact Q4
           refine B6 j5 (A3 (D1 ?_))
           exact H4 (ih (i + 1, m + 1) ⟨by dsimp only; omega, U7 hI.2.1 ⟨⟨h12_2, h12_7, h12_13⟩, fun h0 => by first | omega | (rw [J0] at h12_29; exact Int.not_le.mp h12_29)⟩, by dsimp only; omega⟩ (by dsimp only; omega)) (by (repeat first | exact LE.nil _ | refine LE.unk _ _ ?_ | refine LE.eq _ _ _ rfl ?_)) (by (repeat first | exact E2 | (refine E3 ?_ ?_; exact S4))) (Nat.le_refl _)
         ·refine dnot (c := false) j5 (G5 (e := true) j6 (H8 j5 (A6 j3 (A6 j3 (A6 j3 (A6 j3 (A6 j3 (A6 j3 (A6 j3 (A6 j3 (A6 j3 (A6 j3 ?_))))))))))))
          refine A6 j3 (A6 j3 (A6 j3 (A6 j3 (G5 (e := true) j6 (B1 32 [0, 0, 0, 0, 0, 0, 0, 0, 0, 0, 0, 0, 0, 0, 0, 0, 0, 0, 0, 1, 0, 0, 0, 0, 0, 1, 0, 0, 0, 0, 1, 0] [] j2 (by decide +kernel) trivial ?_)))))
          refine A1 (wT rfl (A2 (A0 (C6 j5 (A3 (A1 (A9 (B4 (B2 (I4 (B4 (B2 ?_))))))))))))
          (refine C9 rfl fun hw => ?_; obtain ⟨w1, w2, w3, w4, w5, w6⟩ := hw; obtain ⟨⟨v1, v2, v3⟩, v4⟩ := w6 i (by omega); first | exact h12_2 v1 | exact h12_7 v2 | exact h12_13 v3 | (have v5 := v4 (by omega); rw [J0] at h12_29; exact Int.not_le.mpr v5 h12_29))
        ·refine dnot (c := false) j5 (G5 (e := true) j6 (H8 j5 (A6 j3 (A6 j3 (A6 j3 (A6 j3 (G5 (e := true) j6 (H8 j5 (A6 j3 (A6 j3 (A6 j3 (A6 j3 ?_))))))))))))
         refine A6 j3 (A6 j3 (A6 j3 (A6 j3 (A6 j3 (A6 j3 (A6 j3 (A6 j3 (A6 j3 (A6 j3 (G5 (e := true) j6 (B1 32 [0, 0, 0, 0, 0, 0, 0, 0, 0, 0, 0, 0, 0, 0, 0, 0, 0, 0, 0, 0, 0, 0, 0, 0, 0, 1, 0, 0, 0, 0, 1, 0] [] j2 (by decide +kernel) trivial ?_)))))))))))
         refine A1 (wT rfl (A2 (A0 (C6 j5 (A3 (A1 (A9 (B4 (B2 (I4 (B4 (B2 ?_))))))))))))
         (refine C9 rfl fun hw => ?_; obtain ⟨w1, w2, w3, w4, w5, w6⟩ := hw; obtain ⟨⟨v1, v2, v3⟩, v4⟩ := w6 i (by omega); first | exact h12_2 v1 | exact h12_7 v2 | exact h12_13 v3 | (have v5 := v4 (by omega); rw [J0] at h12_29; exact Int.not_le.mpr v5 h12_29))
       ·refine dnot (c := false) j5 (H8 j5 (A6 j3 (A6 j3 (A6 j3 (A6 j3 (G5 (e := true) j6 (H8 j5 (A6 j3 (A6 j3 (A6 j3 (A6 j3 (G5 (e := true) j6 ?_))))))))))))
        refine H8 j5 (A6 j3 (A6 j3 (A6 j3 (A6 j3 (A6 j3 (A6 j3 (A6 j3 (A6 j3 (A6 j3 (A6 j3 (A6 j3 (A6 j3 ?_))))))))))))
        refine A6 j3 (A6 j3 (G5 (e := true) j6 (B1 32 [0, 0, 0, 0, 0, 0, 0, 0, 0, 0, 0, 0, 0, 0, 0, 0, 0, 0, 0, 0, 0, 0, 0, 0, 0, 0, 0, 0, 0, 0, 1, 0] [] j2 (by decide +kernel) trivial ?_)))
        refine A1 (wT rfl (A2 (A0 (C6 j5 (A3 (A1 (A9 (B4 (B2 (I4 (B4 (B2 ?_))))))))))))
        (refine C9 rfl fun hw => ?_; obtain ⟨w1, w2, w3, w4, w5, w6⟩ := hw; obtain ⟨⟨v1, v2, v3⟩, v4⟩ := w6 i (by omega); first | exact h12_2 v1 | exact h12_7 v2 | exact h12_13 v3 | (have v5 := v4 (by omega); rw [J0] at h12_29; exact Int.not_le.mpr v5 h12_29))
      ·refine A3 (A1 (A2 (wF rfl (E5 (E6 (D7 (C8 (A1 (A2 (A0 (C6 j5 (A3 ?_))))))))))))
       refine A1 (A9 ?_)
       exact D2 rfl ⟨h1_2, h1_7, by omega, by omega, fun j hj => hK.2.1 j (by omega), fun j hj => hI.2.1 j (by omega)⟩
  ·refine D5 (c := false) j5 (C0 (e := true) j6 (C4 j5 (A4 j3 (A4 j3 (A4 j3 (A4 j3 (C0 (e := true) j6 (C4 j5 (A4 j3 (A4 j3 (A4 j3 (A4 j3 ?_))))))))))))
   refine C0 (e := true) j6 (A3 (A1 (wT rfl (A2 (A0 (C6 j5 (A3 (A1 (A9 (B2 ?_))))))))))
   (refine C9 rfl fun hw => ?_; obtain ⟨w1, w2, w3, w4, w5, w6⟩ := hw; first | contradiction | omega)
 ·refine D5 (c := false) j5 (C4 j5 (A4 j3 (A4 j3 (A4 j3 (A4 j3 (C0 (e := true) j6 (C4 j5 (A4 j3 (A4 j3 (A4 j3 (A4 j3 (C0 (e := true) j6 ?_))))))))))))
  refine C4 j5 (A4 j3 (A4 j3 (A4 j3 (A4 j3 (C0 (e := true) j6 (A3 (A1 (wT rfl (A2 (A0 (C6 j5 (A3 ?_))))))))))))
  refine A1 (A9 (B2 ?_))
  (refine C9 rfl fun hw => ?_; obtain ⟨w1, w2, w3, w4, w5, w6⟩ := hw; first | contradiction | omega)
end Go.Proofs.Ytknnniaoboaghaa
namespace Go.V
open Go
set_option linter.unusedVariables false
set_option linter.unusedSimpArgs false
def V.data : V → Bool
  | .bool _ | .int _ _ | .str _ | .nilp | .nilf | .nsl | .sl _ _ _ => true
  | _ => false
def V.flat : V → Bool
  | .bool _ | .int _ _ | .str _ | .nilp | .nilf | .nsl | .view _ _ _ | .ptr _ _ _ | .unk => true
  | _ => false
theorem VR.data {c c' : Cx} {x : V} {v : Value} (hx : x.data = true) (h : VR c x v) (hi : ∀ b, c.I b → c'.I b) (G0 : c'.B = c.B ∧ c'.w = c.w) : VR c' x v := by
  obtain ⟨hB, hw⟩ := G0
  cases h with
  | bool b => exact .bool b
  | int k n => exact .int k n
  | str s => exact .str s
  | nilp => exact .nilp
  | nilf => exact .nilf
  | nsl => exact .nsl
  | sl fr nn es v h => exact .sl fr nn es v ((h.mono (fun b hb => ⟨hi b hb.1, fun e => by rw [hB]; exact hb.2 e⟩) (fun b _ => by rw [hw])))
  | _ => cases hx
theorem VR.flat {c c' : Cx} {x : V} {v : Value} (hx : x.flat = true) (h : VR c x v) (hr : ∀ id p, c.ρ id = some p → c'.ρ id = some p) : VR c' x v := by
  cases h with
  | bool b => exact .bool b
  | int k n => exact .int k n
  | str s => exact .str s
  | nilp => exact .nilp
  | nilf => exact .nilf
  | nsl => exact .nsl
  | view id off len p o cap hp ho hl hm => exact .view id off len p o cap (hr _ _ hp) ho hl hm
  | ptr id i j p hp hm => exact .ptr id i j p (hr _ _ hp) hm
  | unk v => exact .unk v
  | _ => cases hx
theorem op_fresh {E : Env} {o : Oper} {t : Nat → V} {h : Heap} {n n' : Nat} {fo : Operand} {args : Array Operand} {tys : Array TypeId} {f : FuncId} {vs : List V} {v : V} {wr : List (Nat × Option Blk)}
    (ho : o.op = .call { callee := .value fo, args := args, argTypes := tys }) (hc : E.eval t fo = .clo f []) (hv : args.toList.map (E.eval t) = vs) (hop : Open E f vs (fun _ => none) n v wr n')
    (hda : ∀ x ∈ vs, x.data = true) (hfl : v.flat = true) (hwf : ∀ id b, app wr (fun _ => none) id = some b → ∀ e ∈ b.es, ∀ x ∈ e, x.flat = true) :
    OpOK E o t h n [] false v wr n' := by
  intro c a h2 K Q hd hx hg hrd _ hf hK
  obtain ⟨cs, hrun, hcl, hcr⟩ := AX ho hc hx (by unfold Open at hop; exact hop.1.1)
  have hcs : cs = #[] := Array.eq_empty_of_size_eq_zero (by simpa using hcl.symm)
  subst hcs
  simp only [Array.append_empty] at hrun
  unfold Oper.wp
  rw [hrun, Oper.upon_enter]
  let c0 : Cx := { ρ := fun _ => none, I := fun b => b < c.w.heap.size, B := c.B, w := c.w }
  have hg0 : Good E c0 (fun _ => none) := by
    refine ⟨fun _ _ h => (nomatch h), fun _ _ _ _ _ _ h => (nomatch h), fun _ h => h, fun _ _ _ h => (nomatch h), fun _ _ h => (nomatch h), hg.base, fun g cs hgc => ?_⟩
    have := hg.glob g cs hgc
    cases this with
    | iptr _ _ b off rd hI hrd' hsub =>
      exact .iptr false cs g 0 rd ⟨hg.imm _ hI.1, by simp⟩ hrd' fun j x hj => (hsub j x hj).mono (fun b hb => ⟨hg.imm _ hb.1, by simp⟩) fun _ _ => rfl
  unfold Open at hop
  refine Calls.mono (hop.2 c0 (args.map a.eval) hg0 (fun _ _ => rfl) (by rw [← hv]; simp) (fun i x u h1 h3 => ?_)) ?_
  · rw [← hv, List.getElem?_map] at h1
    rw [Array.getElem?_map] at h3
    cases hx' : args[i]? with
    | none => simp [hx'] at h3
    | some y =>
      have hx2 : args.toList[i]? = some y := by simpa using hx'
      simp only [hx2, Option.map_some, Option.some.injEq] at h1
      simp only [hx', Option.map_some, Option.some.injEq] at h3
      subst h1; subst h3
      exact VR.data (hda _ (by rw [← hv]; exact List.mem_map.2 ⟨y, List.mem_of_getElem? hx2, rfl⟩)) (hx y (by simp [ho, Op.operands, Call.operands]; exact .inr (Array.mem_of_getElem? hx'))) (fun b hb => hg.imm b hb) j2
  · rintro e w' ⟨u, c', rfl, rfl, hx2, hg2, hd2, hv2⟩
    have hdom : ∀ id p, c'.ρ id = some p → n ≤ id ∧ id < n' := fun id p hp => by
      rcases hd2 id (by rw [hp]; nofun) with h1 | h1
      · exact absurd rfl h1
      · exact h1
    have hsz : c.w.heap.size ≤ c'.w.heap.size := hx2.below.size
    have hBB : c'.B = c.B := hx2.B
    have hnew : ∀ id b p, app wr (fun _ => none) id = some b → c'.ρ id = some p → c.w.heap.size ≤ p.b := fun id b p h1 h3 => by
      rcases Nat.lt_or_ge p.b c.w.heap.size with h4 | h4
      · exact absurd (hx2.imm _ h4) (hg2.sep id b p h1 h3)
      · exact h4
    let c2 : Cx := { ρ := fun id => (c'.ρ id).or (c.ρ id), I := fun b => c.I b, B := c.B, w := c'.w }
    have r1 : ∀ id p, c.ρ id = some p → c2.ρ id = some p := fun id p hp => by
      show (c'.ρ id).or (c.ρ id) = some p
      cases hq : c'.ρ id with
      | none => simpa using hp
      | some q =>
        have := hdom id q hq
        rw [hf id this.1 this.2] at hp; cases hp
    have r2 : ∀ id p, c'.ρ id = some p → c2.ρ id = some p := fun id p hp => by
      show (c'.ρ id).or (c.ρ id) = some p
      rw [hp]; rfl
    have keep : ∀ b, b < c.w.heap.size → c'.w.heap[b]? = c.w.heap[b]? := fun b hb => hx2.keep b hb
    have hx3 : Ext c c2 := ⟨rfl, r1, fun b h => h, fun b hb => keep b (hg.imm b hb), hx2.below⟩
    have hlive : ∀ id b, app wr h2 id = some b → (∃ p, app wr (fun _ => none) id = some b ∧ c'.ρ id = some p) ∨ (id ∉ wr.map (·.1) ∧ h2 id = some b ∧ ∃ p, c.ρ id = some p) := fun id b hb => by
      by_cases hm : id ∈ wr.map (·.1)
      · rw [app_mem wr h2 (fun _ => none) id hm] at hb
        obtain ⟨p, h1, _⟩ := hg2.blk id b hb
        exact .inl ⟨p, hb, h1⟩
      · rw [O0 wr h2 id hm] at hb
        obtain ⟨p, h1, _⟩ := hg.blk id b hb
        exact .inr ⟨hm, hb, p, h1⟩
    refine hK c2 u hx3 ?_ ?_ (VR.flat hfl hv2 r2)
    · refine ⟨fun id b hb => ?_, fun id id' b b' p p' hb hb' hp hp' hpp => ?_, fun b hb => Nat.lt_of_lt_of_le (hg.imm b hb) hsz, fun id b p hb hp hI => ?_, fun id p hp => ?_, Nat.le_trans hg.base hsz, fun g cs hgc => (hg.glob g cs hgc).mono hx3⟩
      · rcases hlive id b hb with ⟨p, h1, h3⟩ | ⟨_, h1, p, h3⟩
        · obtain ⟨q, k1, k2, k3⟩ := hg2.blk id b h1
          refine ⟨q, r2 _ _ k1, fun hm => ?_, fun hm => ?_⟩
          rotate_left
          · obtain ⟨es, j1, j2, j3⟩ := k3 hm
            refine ⟨es, j1, j2, fun i row hr => ?_⟩
            obtain ⟨e, k, x, m1, m2, m3, m4, m5⟩ := j3 i row hr
            have hfr := hwf id b h1 row (List.mem_of_getElem? hr)
            exact ⟨e, k, x, m1, m2, m3, VR.flat (hfr k (by rw [m2]; simp)) m4 r2, VR.flat (hfr x (by rw [m2]; simp)) m5 r2⟩
          obtain ⟨cells, fz, j2, j3, j4, j5, j6, j7, j8⟩ := k2 hm
          refine ⟨cells, fz, j2, j3, j4, j5, j6, j7, fun i j x hx => ?_⟩
          obtain ⟨w, m1, m2, m3⟩ := j8 i j x hx
          refine ⟨w, m1, VR.flat ?_ m2 r2, m3⟩
          unfold get2 at hx
          cases he : b.es[i]? with
          | none => simp [he] at hx
          | some e =>
            simp only [he, Option.bind_some] at hx
            exact hwf id b h1 e (List.mem_of_getElem? he) x (List.mem_of_getElem? hx)
        · obtain ⟨q, k1, k2, k3⟩ := hg.blk id b h1
          have hk := keep q.b (hg.own id q k1).2
          exact ⟨q, r1 _ _ k1, fun hm => (k2 hm).mono hx3 hk, fun hm => (k3 hm).mono hx3 hk⟩
      · have key : ∀ id b p, app wr h2 id = some b → c2.ρ id = some p → (app wr (fun _ => none) id = some b ∧ c'.ρ id = some p ∧ c.w.heap.size ≤ p.b) ∨ (h2 id = some b ∧ c.ρ id = some p ∧ p.b < c.w.heap.size) := fun id b p hb hp => by
          rcases hlive id b hb with ⟨q, h1, h3⟩ | ⟨_, h1, q, h3⟩
          · have := r2 _ _ h3
            rw [this] at hp; obtain rfl := Option.some.inj hp
            exact .inl ⟨h1, h3, hnew _ _ _ h1 h3⟩
          · have := r1 _ _ h3
            rw [this] at hp; obtain rfl := Option.some.inj hp
            exact .inr ⟨h1, h3, (hg.own _ _ h3).2⟩
        rcases key id b p hb hp with ⟨a1, a2, a3⟩ | ⟨a1, a2, a3⟩ <;> rcases key id' b' p' hb' hp' with ⟨b1, b2, b3⟩ | ⟨b1, b2, b3⟩
        · exact hg2.inj id id' b b' p p' a1 b1 a2 b2 hpp
        · omega
        · omega
        · exact hg.inj id id' b b' p p' a1 b1 a2 b2 hpp
      · rcases hlive id b hb with ⟨q, h1, h3⟩ | ⟨_, h1, q, h3⟩
        · have := r2 _ _ h3
          rw [this] at hp; obtain rfl := Option.some.inj hp
          have := hnew _ _ _ h1 h3
          have := hg.imm _ hI
          omega
        · have := r1 _ _ h3
          rw [this] at hp; obtain rfl := Option.some.inj hp
          exact hg.sep id b _ h1 h3 hI
      · have hp2 : (c'.ρ id).or (c.ρ id) = some p := hp
        cases hq : c'.ρ id with
        | some q =>
          rw [hq] at hp2
          obtain rfl : q = p := by simpa using hp2
          have := hg2.own id q hq
          rw [hBB] at this; exact this
        | none =>
          rw [hq] at hp2
          have := hg.own id p (by simpa using hp2)
          exact ⟨this.1, Nat.lt_of_lt_of_le this.2 hsz⟩
    · intro id hid
      have hid2 : (c'.ρ id).or (c.ρ id) ≠ none := hid
      cases hq : c'.ρ id with
      | some q => exact .inr (hdom id q hq)
      | none => rw [hq] at hid2; exact .inl (by simpa using hid2)
section
variable {E : Env} {sz : Nat} {ops : Array Oper} {bl : List Nat} {pre : List Ef} {o : Oper} {l : List Oper} {t : Nat → V} {h : Heap} {n : Nat} {R : (Nat → V) → Heap → Nat → Prop} {v : V} {z : Operand}
theorem dfr {tys : Array TypeId} {f : FuncId} {args : Array Operand} {vs : List V} {wr : List (Nat × Option Blk)} {n1 : Nat} (hop : Open E f vs (fun _ => none) n v wr n1) (ho : o.op = .call { callee := .value z, args := args, argTypes := tys }) (G0 : E.eval t z = .clo f [] ∧ args.toList.map (E.eval t) = vs)
    (hda : ∀ x ∈ vs, x.data = true) (hfl : v.flat = true) (hwf : ∀ id b, app wr (fun _ => none) id = some b → ∀ e ∈ b.es, ∀ x ∈ e, x.flat = true) (hne : wr ≠ []) {d : Nat} (G1 : o.dst = some d ∧ Nat.blt d sz = true ∧ guardV ops t o = some true) (w : WD E sz ops bl (⟨false, v, [], false, wr, n, n1⟩ :: pre) l (upd t d v) (app wr h) n1 R) : WD E sz ops bl pre (o :: l) t h n R := have ⟨hc, hv⟩ := G0; have ⟨hdd, hd, hg⟩ := G1; dOpD (op_fresh ho hc hv hop hda hfl hwf) hdd hd hg hop.le (fun h => absurd h hne) w
end
end Go.V
namespace Go.V
open Go
set_option linter.unusedVariables false
theorem Open.fresh {E : Env} {f : FuncId} {args : List V} {h : Heap} {n m : Nat} {v : V} {wr : List (Nat × Option Blk)} (hc : callP E.P f = true) (hn : n ≤ m) (H : (∀ i, n ≤ i → h i = none) → Open E f args h n v wr m) : Open E f args h n v wr m := by
  by_cases hz : ∀ i, n ≤ i → h i = none
  · exact H hz
  · unfold Open
    refine ⟨⟨hc, hn⟩, fun c vs hg hfr _ _ => absurd (fun i hi => ?_) hz⟩
    cases hb : h i with
    | none => rfl
    | some b =>
      obtain ⟨p, hp, _⟩ := hg.blk i b hb
      rw [hfr i hi] at hp; cases hp
theorem lessApp {h g : Heap} {wr : List (Nat × Option Blk)} {n : Nat} (hz : ∀ i, n ≤ i → h i = none) (h1 : ∀ j ∈ wr.map (·.1), g j = app wr h j) (h2 : ∀ j, j < n → j ∉ wr.map (·.1) → g j = h j) : LessH (app wr h) g := fun j b hj => by
  by_cases hm : j ∈ wr.map (·.1)
  · rw [h1 j hm]; exact hj
  · rw [O0 wr h j hm] at hj
    rcases Nat.lt_or_ge j n with hl | hl
    · rw [h2 j hl hm]; exact hj
    · rw [hz j hl] at hj; cases hj
end Go.V
namespace Go.V
open Go
set_option linter.unusedVariables false
set_option linter.unusedSimpArgs false
variable {E : Env} {o : Oper} {t : Nat → V} {h : Heap} {n : Nat}
def Cx.mark (c : Cx) (b m : Nat) : Cx := { c with w := c.w.freeze ⟨b, m, none⟩ 1 }
variable {sz : Nat} {ops : Array Oper} {l : List Oper} {bl : List Nat} {pre : List Ef} {R : (Nat → V) → Heap → Nat → Prop} {ty e : TypeId} {x : Operand}
end Go.V
namespace Go.V
open Go
set_option linter.unusedVariables false
set_option linter.unusedSimpArgs false
def V.flat2 : V → Bool
  | .agg cs => cs.all V.flat
  | x => x.flat
def V.flat3 : V → Bool
  | .tup vs => vs.all V.flat2
  | x => x.flat2
theorem VR.flat2 {c c' : Cx} {x : V} {v : Value} (hx : x.flat2 = true) (h : VR c x v) (hr : ∀ id p, c.ρ id = some p → c'.ρ id = some p) : VR c' x v := by
  cases h with
  | agg cs vs hl h =>
    refine .agg cs vs hl fun i x u h1 h2 => VR.flat ?_ (h i x u h1 h2) hr
    unfold V.flat2 at hx
    exact List.all_eq_true.1 hx x (List.mem_of_getElem? h1)
  | bool b => exact .bool b
  | int k n => exact .int k n
  | str s => exact .str s
  | nilp => exact .nilp
  | nilf => exact .nilf
  | nsl => exact .nsl
  | view id off len p o cap hp ho hl hm => exact .view id off len p o cap (hr _ _ hp) ho hl hm
  | ptr id i j p hp hm => exact .ptr id i j p (hr _ _ hp) hm
  | unk v => exact .unk v
  | _ => cases hx
theorem VR.flat3 {c c' : Cx} {x : V} {v : Value} (hx : x.flat3 = true) (h : VR c x v) (hr : ∀ id p, c.ρ id = some p → c'.ρ id = some p) : VR c' x v := by
  by_cases ht : ∃ vs, x = .tup vs
  · obtain ⟨vs, rfl⟩ := ht
    cases h with
    | tup _ us hl h =>
      refine .tup vs us hl fun i x u h1 h2 => VR.flat2 ?_ (h i x u h1 h2) hr
      unfold V.flat3 at hx
      exact List.all_eq_true.1 hx x (List.mem_of_getElem? h1)
  · refine VR.flat2 ?_ h hr
    unfold V.flat3 at hx
    cases x <;> first | exact hx | exact absurd ⟨_, rfl⟩ ht
section
variable {E : Env} {sz : Nat} {ops : Array Oper} {bl : List Nat} {pre : List Ef} {o : Oper} {l : List Oper} {t : Nat → V} {h : Heap} {n : Nat} {R : (Nat → V) → Heap → Nat → Prop} {v : V} {z : Operand}
end
end Go.V
namespace Go.V
open Go
set_option linter.unusedVariables false
set_option linter.unusedSimpArgs false
inductive Sh where
  | bool
  | int (k : IntKind)
  | str
  | sl (l : List Sh)
mutual
inductive HasSh : T → Sh → Prop
  | bool (b : Bool) : HasSh (.bool b) .bool
  | int (k : IntKind) (n : Int) (h : (Lit.int k n).wf = true) : HasSh (.int k n) (.int k)
  | str (s : ByteArray) (h : s.size ≤ maxLen) : HasSh (.str s) .str
  | sl (es : List (List T)) (l : List Sh) (h : es.length ≤ maxLen) (hs : ∀ e ∈ es, Shs e l) : HasSh (.sl false es) (.sl l)
inductive Shs : List T → List Sh → Prop
  | nil : Shs [] []
  | cons (x : T) (s : Sh) (xs : List T) (l : List Sh) (h : HasSh x s) (hs : Shs xs l) : Shs (x :: xs) (s :: l)
end
theorem Shs.length {xs : List T} {l : List Sh} (h : Shs xs l) : xs.length = l.length := by
  induction xs generalizing l with
  | nil => cases h; rfl
  | cons x xs ih => cases h with | cons _ _ _ _ _ hs => simp [ih hs]
theorem Shs.append {xs ys : List T} {l m : List Sh} (h : Shs xs l) (k : Shs ys m) : Shs (xs ++ ys) (l ++ m) := by
  induction xs generalizing l with
  | nil => cases h; exact k
  | cons x xs ih => cases h with | cons _ s _ l h hs => exact .cons x s _ _ h (ih hs)
def shFs (P : Program) (rec : TypeId → Option (List Sh)) : Nat → List Field → Option (List Sh)
  | _, [] => some []
  | off, f :: fs => match rec f.type with
    | none => none
    | some l => if f.offset = off ∧ P.cellsOf f.type = l.length then (shFs P rec (off + l.length) fs).map (l ++ ·) else none
def shOf (P : Program) : Nat → TypeId → Option (List Sh)
  | 0, _ => none
  | d + 1, t => match P.underlying t with
    | some .bool => some [.bool]
    | some (.int k) => some [.int k]
    | some .string => some [.str]
    | some (.slice e) => match shOf P d e with
      | some l => if P.cellsOf e = l.length ∧ l ≠ [] then some [.sl l] else none
      | none => none
    | some (.struct fs) => match shFs P (shOf P d) 0 fs.toList with
      | some l => if P.cellsOf t = l.length then some l else none
      | none => none
    | _ => none
def Opened (w : World) (cs : List Value) (l : List Sh) : Prop :=
  ∃ xs : List T, xs.length = cs.length ∧ Shs xs l ∧ ∀ (i : Nat) (x : T) (v : Value), xs[i]? = some x → cs[i]? = some v → TR (fun b => b < w.heap.size) w x v
theorem Opened.one {w : World} {v : Value} {x : T} {s : Sh} (h : HasSh x s) (t : TR (fun b => b < w.heap.size) w x v) : Opened w [v] [s] :=
  ⟨[x], rfl, .cons _ _ _ _ h .nil, fun i y u h1 h2 => by
    cases i with
    | zero => simp only [List.getElem?_cons_zero, Option.some.injEq] at h1 h2; subst h1; subst h2; exact t
    | succ i => simp at h1⟩
section
variable {H : Type} {enc : TypeId × Value → H} {P : Program} {w : World} {base : Nat} {spare : Nat → Bool} {held : Bool}
end
end Go.V
namespace Go.V
open Go
set_option linter.unusedVariables false
set_option linter.unusedSimpArgs false
def famL (w : Nat → Nat) (F : Nat → Option Blk) (n : Nat) : List (Nat × Option Blk) := (List.range n).map fun i => (w i, F i)
theorem I3 : ∀ (l m : List (Nat × Option Blk)) (h : Heap), app (l ++ m) h = app m (app l h)
  | [], m, h => rfl
  | (i, b) :: l, m, h => I3 l m (upd h i b)
theorem famL_succ {w : Nat → Nat} {F : Nat → Option Blk} {n : Nat} : famL w F (n + 1) = famL w F n ++ [(w n, F n)] := by
  unfold famL; rw [List.range_succ, List.map_append]; rfl
theorem famL_ids {w : Nat → Nat} {F : Nat → Option Blk} {n : Nat} : (famL w F n).map (·.1) = (List.range n).map w := by
  unfold famL; rw [List.map_map]; rfl
theorem T4 {w : Nat → Nat} {F : Nat → Option Blk} {n j : Nat} : j ∈ (famL w F n).map (·.1) ↔ ∃ i, i < n ∧ w i = j := by
  rw [famL_ids, List.mem_map]
  exact ⟨fun ⟨i, h1, h2⟩ => ⟨i, List.mem_range.1 h1, h2⟩, fun ⟨i, h1, h2⟩ => ⟨i, List.mem_range.2 h1, h2⟩⟩
theorem famO {w : Nat → Nat} {F : Nat → Option Blk} {n : Nat} {h : Heap} {id : Nat} (ho : ∀ i, i < n → w i ≠ id) : app (famL w F n) h id = h id :=
  O0 _ _ _ fun hm => by obtain ⟨i, h1, h2⟩ := T4.1 hm; exact ho i h1 h2
theorem famI {w : Nat → Nat} {F : Nat → Option Blk} {h : Heap} : ∀ {n i : Nat}, (∀ i j, i < n → j < n → w i = w j → i = j) → i < n → app (famL w F n) h (w i) = F i
  | n + 1, i, inj, hi => by
    rw [famL_succ, I3, appC, app0]
    by_cases e : i = n
    · subst e; exact updS rfl
    · rw [updN (fun e2 => e (inj i n hi (Nat.lt_succ_self n) e2))]
      exact famI (fun a b ha hb => inj a b (by omega) (by omega)) (by omega)
theorem AE {w : Nat → Nat} {F : Nat → Option Blk} {n m : Nat} {wr : List (Nat × Option Blk)} {h g : Heap} (hz : ∀ i, m ≤ i → h i = none)
    (h0 : ∀ i, i < n → g (w i) = app (wr ++ famL w F n) h (w i)) (h1 : ∀ j ∈ wr.map (·.1), g j = app (wr ++ famL w F n) h j)
    (h2 : ∀ j, j < m → (∀ i, i < n → w i ≠ j) → j ∉ wr.map (·.1) → g j = h j) : LessH (app (wr ++ famL w F n) h) g := by
  refine lessApp (n := m) hz (fun j hj => ?_) (fun j hj hn => ?_)
  · rw [List.map_append, List.mem_append] at hj
    rcases hj with hj | hj
    · exact h1 j hj
    · obtain ⟨i, hi, rfl⟩ := T4.1 hj; exact h0 i hi
  · rw [List.map_append, List.mem_append, not_or] at hn
    exact h2 j hj (fun i hi e => hn.2 (T4.2 ⟨i, hi, e⟩)) hn.1
theorem leFam {w : Nat → Nat} {F : Nat → Option Blk} {k n : Nat} {wr : List (Nat × Option Blk)} {h h' : Heap}
    (h0 : ∀ i, i < k → h' (w i) = app (wr ++ famL w F k) h (w i)) (h1 : ∀ j ∈ wr.map (·.1), h' j = app (wr ++ famL w F k) h j)
    (h2 : ∀ j, j < n → (∀ i, i < k → w i ≠ j) → j ∉ wr.map (·.1) → h' j = h j) : (∀ i, n ≤ i → h i = none) → ∀ id b, app (wr ++ famL w F k) h id = some b → h' id = some b := by
  refine K8 (fun j hj => ?_) (fun j hj hn => ?_)
  · rw [List.map_append, List.mem_append] at hj
    rcases hj with hj | hj
    · exact h1 j hj
    · obtain ⟨i, hi, rfl⟩ := T4.1 hj; exact h0 i hi
  · rw [List.map_append, List.mem_append, not_or] at hn
    exact h2 j hj (fun i hi e => hn.2 (T4.2 ⟨i, hi, e⟩)) hn.1
end Go.V
namespace Go.Proofs.Ytknnniaoboaghaa
open Go.V
set_option linter.unusedVariables false
set_option linter.unusedSimpArgs false
set_option maxRecDepth 20000
set_option maxHeartbeats 4000000
end Go.Proofs.Ytknnniaoboaghaa
