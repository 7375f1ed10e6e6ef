import Derived.Test.YtknnniaoboaghaaC1
namespace Go.Proofs.Ytknnniaoboaghaa
open Go.V
set_option linter.unusedVariables false
set_option maxRecDepth 20000

theorem p72 (s : ByteArray) : Pure En 133 [.one (.str s)] [.one (.bool (decide (word s)))] := by
  refine Pure.of_wp Try.func133 rfl (Nat.le_of_ble_eq_true rfl) ?_
  refine wSeq ?_
  refine wRegion ?_
  refine raB rfl rfl rfl rfl rfl ?_
  refine rNil ?_
  refine qSeq ?_
  refine wSeq ?_
  refine wSeq ?_
  refine wRegion ?_
  refine rmS rfl rfl rfl rfl rfl ?_
  refine rls rfl rfl rfl rfl rfl rfl ?_
  refine rlt rfl rfl rfl rfl rfl rfl ?_ ?_ <;> intro h1_2
  · refine rmB rfl rfl rfl rfl rfl ?_
    refine rSkip rfl rfl rfl ?_
    refine rSkip rfl rfl rfl ?_
    refine rSkip rfl rfl rfl ?_
    refine rpk (e := true) rfl rfl rfl rfl rfl rfl ?_
    refine rmB rfl rfl rfl rfl rfl ?_
    refine rSkip rfl rfl rfl ?_
    refine rSkip rfl rfl rfl ?_
    refine rSkip rfl rfl rfl ?_
    refine rSkip rfl rfl rfl ?_
    refine rpk (e := true) rfl rfl rfl rfl rfl rfl ?_
    refine rNil ?_
    refine qSeq ?_
    refine wT rfl ?_
    refine wSeq ?_
    refine wRegion ?_
    refine raB rfl rfl rfl rfl rfl ?_
    refine rNil ?_
    refine qSeq ?_
    refine wRet ?_
    refine qSeqR ?_
    first
      | exact finT rfl ⟨by omega, by omega, by assumption, fun j hj => hI.2 j (by omega)⟩
      | (refine finF rfl fun hw => ?_; obtain ⟨w1, w2, w3, w4⟩ := hw; first | omega | exact h1_11 w3 | (have := (w4 i (by omega)).resolve_left h6_3; unfold digit at this; unfold bt at *; omega) | (have := (w4 i (by omega)).resolve_left h6_3; unfold digit at this; first | exact absurd this.1 (Int.not_le.mpr h6_9) | exact absurd this.2 (Int.not_le.mpr h6_14)))
  · refine rmB rfl rfl rfl rfl rfl ?_
    refine rmS rfl rfl rfl rfl rfl ?_
    refine rls rfl rfl rfl rfl rfl rfl ?_
    refine rgt rfl rfl rfl rfl rfl rfl ?_ ?_ <;> intro h1_6
    · refine rpk (e := true) rfl rfl rfl rfl rfl rfl ?_
      refine rmB rfl rfl rfl rfl rfl ?_
      refine rSkip rfl rfl rfl ?_
      refine rSkip rfl rfl rfl ?_
      refine rSkip rfl rfl rfl ?_
      refine rSkip rfl rfl rfl ?_
      refine rpk (e := true) rfl rfl rfl rfl rfl rfl ?_
      refine rNil ?_
      refine qSeq ?_
      refine wT rfl ?_
      refine wSeq ?_
      refine wRegion ?_
      refine raB rfl rfl rfl rfl rfl ?_
      refine rNil ?_
      refine qSeq ?_
      refine wRet ?_
      refine qSeqR ?_
      first
        | exact finT rfl ⟨by omega, by omega, by assumption, fun j hj => hI.2 j (by omega)⟩
        | (refine finF rfl fun hw => ?_; obtain ⟨w1, w2, w3, w4⟩ := hw; first | omega | exact h1_11 w3 | (have := (w4 i (by omega)).resolve_left h6_3; unfold digit at this; unfold bt at *; omega) | (have := (w4 i (by omega)).resolve_left h6_3; unfold digit at this; first | exact absurd this.1 (Int.not_le.mpr h6_9) | exact absurd this.2 (Int.not_le.mpr h6_14)))
    · refine rpk (e := false) rfl rfl rfl rfl rfl rfl ?_
      refine rmB rfl rfl rfl rfl rfl ?_
      refine rmS rfl rfl rfl rfl rfl ?_
      refine rixsK (i := 0) rfl rfl rfl rfl ?_ ?_ rfl rfl rfl rfl ?_
      · (first | omega | assumption | (focus (simp; omega)))
      · (first | omega | assumption | (focus (simp; omega)))
      refine rclP (p83 _) rfl rfl rfl rfl rfl rfl ?_ ?_ <;> intro h1_11
      · refine rnot (c := true) rfl rfl rfl rfl rfl ?_
        refine rpk (e := false) rfl rfl rfl rfl rfl rfl ?_
        refine rNil ?_
        refine qSeq ?_
        refine wF rfl ?_
        refine wSkip ?_
        refine qSeq ?_
        refine wSeq ?_
        refine wSeq ?_
        refine wRegion ?_
        refine rmS rfl rfl rfl rfl rfl ?_
        refine rls rfl rfl rfl rfl rfl rfl ?_
        refine rmI rfl rfl rfl rfl rfl ?_
        refine rNil ?_
        refine qSeq ?_
        refine wBlock ?_
        refine wLoop ?_
        refine loopGo0 (fun (i : Nat) => [.str s, .unk, .unk, .unk, .unk, .unk, .unk, .unk, .unk, .unk, .unk, .unk, .unk, .unk, .unk, .unk, .unk, .unk, .unk, .int .i64 s.size, .int .i64 i]) (fun (i : Nat) => i ≤ s.size ∧ ∀ j, j < i → letter (bt s j) ∨ digit (bt s j)) (fun (i : Nat) => s.size - i) 0 ?_ ?_ ?_
        · exact ⟨by omega, all0⟩
        · (repeat first | exact LE.nil _ | refine LE.unk _ _ ?_ | refine LE.eq _ _ _ rfl ?_)
        intro i hI ih
        refine lStep ?_
        refine wSeq ?_
        refine wRegion ?_
        refine rlt rfl rfl rfl rfl rfl rfl ?_ ?_ <;> intro h4_0
        · refine rNil ?_
          refine qSeq ?_
          refine wSeq ?_
          refine wT rfl ?_
          refine wSkip ?_
          refine qSeq ?_
          refine wSeq ?_
          refine wBlock ?_
          refine wSeq ?_
          refine wRegion ?_
          refine rmI rfl rfl rfl rfl rfl ?_
          refine raI rfl rfl rfl rfl rfl ?_
          refine rNil ?_
          refine qSeq ?_
          refine wSeq ?_
          refine wRegion ?_
          refine rmS rfl rfl rfl rfl rfl ?_
          refine rmI rfl rfl rfl rfl rfl ?_
          refine rixs rfl rfl rfl rfl ?_ ?_ rfl rfl rfl ?_
          · (first | omega | assumption | (focus (simp; omega)))
          · (first | omega | assumption | (focus (simp; omega)))
          refine rclP (p83 _) rfl rfl rfl rfl rfl rfl ?_ ?_ <;> intro h6_3
          · refine rnot (c := true) rfl rfl rfl rfl rfl ?_
            refine rmB rfl rfl rfl rfl rfl ?_
            refine rSkip rfl rfl rfl ?_
            refine rSkip rfl rfl rfl ?_
            refine rSkip rfl rfl rfl ?_
            refine rSkip rfl rfl rfl ?_
            refine rSkip rfl rfl rfl ?_
            refine rSkip rfl rfl rfl ?_
            refine rSkip rfl rfl rfl ?_
            refine rSkip rfl rfl rfl ?_
            refine rSkip rfl rfl rfl ?_
            refine rSkip rfl rfl rfl ?_
            refine rpk (e := false) rfl rfl rfl rfl rfl rfl ?_
            refine rNil ?_
            refine qSeq ?_
            refine wF rfl ?_
            refine wSkip ?_
            refine qBlock ?_
            refine qSeq ?_
            refine wRegion ?_
            refine raddF rfl rfl rfl ?_ ?_ rfl rfl rfl ?_
            · (first | omega | assumption | (focus (simp; omega)))
            · (first | omega | assumption | (focus (simp; omega)))
            refine rmI rfl rfl rfl rfl rfl ?_
            refine rNil ?_
            refine qLoop ?_
            exact wlN (ih (i + 1) ⟨by omega, allS hI.2 (by first | exact .inl h6_3 | exact .inr ⟨Int.not_lt.mp h6_9, Int.not_lt.mp h6_14⟩)⟩ (by omega)) (by (repeat first | exact LE.nil _ | refine LE.unk _ _ ?_ | refine LE.eq _ _ _ rfl ?_))
          · refine rnot (c := false) rfl rfl rfl rfl rfl ?_
            refine rmB rfl rfl rfl rfl rfl ?_
            refine rmS rfl rfl rfl rfl rfl ?_
            refine rmI rfl rfl rfl rfl rfl ?_
            refine rixs rfl rfl rfl rfl ?_ ?_ rfl rfl rfl ?_
            · (first | omega | assumption | (focus (simp; omega)))
            · (first | omega | assumption | (focus (simp; omega)))
            refine rlt rfl rfl rfl rfl rfl rfl ?_ ?_ <;> intro h6_9
            · refine rmB rfl rfl rfl rfl rfl ?_
              refine rSkip rfl rfl rfl ?_
              refine rSkip rfl rfl rfl ?_
              refine rSkip rfl rfl rfl ?_
              refine rSkip rfl rfl rfl ?_
              refine rpk (e := true) rfl rfl rfl rfl rfl rfl ?_
              refine rpk (e := true) rfl rfl rfl rfl rfl rfl ?_
              refine rNil ?_
              refine qSeq ?_
              refine wT rfl ?_
              refine wSeq ?_
              refine wRegion ?_
              refine raB rfl rfl rfl rfl rfl ?_
              refine rNil ?_
              refine qSeq ?_
              refine wRet ?_
              refine qBlockR ?_
              refine qSeqR ?_
              refine qLoopR ?_
              refine qBlockR ?_
              refine qSeqR ?_
              first
                | exact finT rfl ⟨by omega, by omega, by assumption, fun j hj => hI.2 j (by omega)⟩
                | (refine finF rfl fun hw => ?_; obtain ⟨w1, w2, w3, w4⟩ := hw; first | omega | exact h1_11 w3 | (have := (w4 i (by omega)).resolve_left h6_3; unfold digit at this; unfold bt at *; omega) | (have := (w4 i (by omega)).resolve_left h6_3; unfold digit at this; first | exact absurd this.1 (Int.not_le.mpr h6_9) | exact absurd this.2 (Int.not_le.mpr h6_14)))
            · refine rmB rfl rfl rfl rfl rfl ?_
              refine rmS rfl rfl rfl rfl rfl ?_
              refine rmI rfl rfl rfl rfl rfl ?_
              refine rixs rfl rfl rfl rfl ?_ ?_ rfl rfl rfl ?_
              · (first | omega | assumption | (focus (simp; omega)))
              · (first | omega | assumption | (focus (simp; omega)))
              refine rgt rfl rfl rfl rfl rfl rfl ?_ ?_ <;> intro h6_14
              · refine rpk (e := true) rfl rfl rfl rfl rfl rfl ?_
                refine rpk (e := true) rfl rfl rfl rfl rfl rfl ?_
                refine rNil ?_
                refine qSeq ?_
                refine wT rfl ?_
                refine wSeq ?_
                refine wRegion ?_
                refine raB rfl rfl rfl rfl rfl ?_
                refine rNil ?_
                refine qSeq ?_
                refine wRet ?_
                refine qBlockR ?_
                refine qSeqR ?_
                refine qLoopR ?_
                refine qBlockR ?_
                refine qSeqR ?_
                first
                  | exact finT rfl ⟨by omega, by omega, by assumption, fun j hj => hI.2 j (by omega)⟩
                  | (refine finF rfl fun hw => ?_; obtain ⟨w1, w2, w3, w4⟩ := hw; first | omega | exact h1_11 w3 | (have := (w4 i (by omega)).resolve_left h6_3; unfold digit at this; unfold bt at *; omega) | (have := (w4 i (by omega)).resolve_left h6_3; unfold digit at this; first | exact absurd this.1 (Int.not_le.mpr h6_9) | exact absurd this.2 (Int.not_le.mpr h6_14)))
              · refine rpk (e := false) rfl rfl rfl rfl rfl rfl ?_
                refine rpk (e := false) rfl rfl rfl rfl rfl rfl ?_
                refine rNil ?_
                refine qSeq ?_
                refine wF rfl ?_
                refine wSkip ?_
                refine qBlock ?_
                refine qSeq ?_
                refine wRegion ?_
                refine raddF rfl rfl rfl ?_ ?_ rfl rfl rfl ?_
                · (first | omega | assumption | (focus (simp; omega)))
                · (first | omega | assumption | (focus (simp; omega)))
                refine rmI rfl rfl rfl rfl rfl ?_
                refine rNil ?_
                refine qLoop ?_
                exact wlN (ih (i + 1) ⟨by omega, allS hI.2 (by first | exact .inl h6_3 | exact .inr ⟨Int.not_lt.mp h6_9, Int.not_lt.mp h6_14⟩)⟩ (by omega)) (by (repeat first | exact LE.nil _ | refine LE.unk _ _ ?_ | refine LE.eq _ _ _ rfl ?_))
        · refine rNil ?_
          refine qSeq ?_
          refine wSeq ?_
          refine wF rfl ?_
          refine wExit ?_
          refine qSeqX ?_
          refine qLoopX ?_
          refine qBlockX ?_
          refine qSeq ?_
          refine wSeq ?_
          refine wRegion ?_
          refine raB rfl rfl rfl rfl rfl ?_
          refine rNil ?_
          refine qSeq ?_
          refine wRet ?_
          first
            | exact finT rfl ⟨by omega, by omega, by assumption, fun j hj => hI.2 j (by omega)⟩
            | (refine finF rfl fun hw => ?_; obtain ⟨w1, w2, w3, w4⟩ := hw; first | omega | exact h1_11 w3 | (have := (w4 i (by omega)).resolve_left h6_3; unfold digit at this; unfold bt at *; omega) | (have := (w4 i (by omega)).resolve_left h6_3; unfold digit at this; first | exact absurd this.1 (Int.not_le.mpr h6_9) | exact absurd this.2 (Int.not_le.mpr h6_14)))
      · refine rnot (c := false) rfl rfl rfl rfl rfl ?_
        refine rpk (e := true) rfl rfl rfl rfl rfl rfl ?_
        refine rNil ?_
        refine qSeq ?_
        refine wT rfl ?_
        refine wSeq ?_
        refine wRegion ?_
        refine raB rfl rfl rfl rfl rfl ?_
        refine rNil ?_
        refine qSeq ?_
        refine wRet ?_
        refine qSeqR ?_
        first
          | exact finT rfl ⟨by omega, by omega, by assumption, fun j hj => hI.2 j (by omega)⟩
          | (refine finF rfl fun hw => ?_; obtain ⟨w1, w2, w3, w4⟩ := hw; first | omega | exact h1_11 w3 | (have := (w4 i (by omega)).resolve_left h6_3; unfold digit at this; unfold bt at *; omega) | (have := (w4 i (by omega)).resolve_left h6_3; unfold digit at this; first | exact absurd this.1 (Int.not_le.mpr h6_9) | exact absurd this.2 (Int.not_le.mpr h6_14)))

def opName (s : ByteArray) : Prop := s.size ≤ 12 ∧ word s
noncomputable instance (s : ByteArray) : Decidable (opName s) := Classical.propDecidable _

theorem p53 (s : ByteArray) : Pure En 107 [.one (.str s)] [.one (.bool (decide (opName s)))] := by
  refine Pure.of_wp Try.func107 rfl (Nat.le_of_ble_eq_true rfl) ?_
  refine wSeq ?_
  refine wRegion ?_
  refine raB rfl rfl rfl rfl rfl ?_
  refine rNil ?_
  refine qSeq ?_
  refine wSeq ?_
  refine wRegion ?_
  refine rmS rfl rfl rfl rfl rfl ?_
  refine rls rfl rfl rfl rfl rfl rfl ?_
  refine rle rfl rfl rfl rfl rfl rfl ?_ ?_ <;> intro h1_2
  · refine rmB rfl rfl rfl rfl rfl ?_
    refine rmS rfl rfl rfl rfl rfl ?_
    refine rclP (p72 _) rfl rfl rfl rfl rfl rfl ?_ ?_ <;> intro h1_5
    · refine rpk (e := true) rfl rfl rfl rfl rfl rfl ?_
      refine raB rfl rfl rfl rfl rfl ?_
      refine rNil ?_
      refine qSeq ?_
      refine wRet ?_
      first | exact finT rfl ⟨by omega, by assumption⟩ | (refine finF rfl fun hw => ?_; obtain ⟨w1, w2⟩ := hw; first | omega | exact h1_5 w2)
    · refine rpk (e := false) rfl rfl rfl rfl rfl rfl ?_
      refine raB rfl rfl rfl rfl rfl ?_
      refine rNil ?_
      refine qSeq ?_
      refine wRet ?_
      first | exact finT rfl ⟨by omega, by assumption⟩ | (refine finF rfl fun hw => ?_; obtain ⟨w1, w2⟩ := hw; first | omega | exact h1_5 w2)
  · refine rmB rfl rfl rfl rfl rfl ?_
    refine rSkip rfl rfl rfl ?_
    refine rSkip rfl rfl rfl ?_
    refine rpk (e := false) rfl rfl rfl rfl rfl rfl ?_
    refine raB rfl rfl rfl rfl rfl ?_
    refine rNil ?_
    refine qSeq ?_
    refine wRet ?_
    first | exact finT rfl ⟨by omega, by assumption⟩ | (refine finF rfl fun hw => ?_; obtain ⟨w1, w2⟩ := hw; first | omega | exact h1_5 w2)
theorem p85 (s : ByteArray) (n : Int) : Pure En 81 [.one (.str s), .one (.int .i64 n)] [.one (.bool (decide (s.size ≤ n ∧ word s)))] := by
  refine Pure.of_wp Try.func81 rfl (Nat.le_of_ble_eq_true rfl) ?_
  refine wSeq ?_
  refine wRegion ?_
  refine raB rfl rfl rfl rfl rfl ?_
  refine rNil ?_
  refine qSeq ?_
  refine wSeq ?_
  refine wRegion ?_
  refine rmS rfl rfl rfl rfl rfl ?_
  refine rls rfl rfl rfl rfl rfl rfl ?_
  refine rmI rfl rfl rfl rfl rfl ?_
  refine rclP (p84 _ _ _) rfl rfl rfl rfl rfl rfl ?_ ?_ <;> intro h1_3
  · refine rmB rfl rfl rfl rfl rfl ?_
    refine rmS rfl rfl rfl rfl rfl ?_
    refine rclP (p89 _) rfl rfl rfl rfl rfl rfl ?_ ?_ <;> intro h1_6
    · refine rpk (e := true) rfl rfl rfl rfl rfl rfl ?_
      refine raB rfl rfl rfl rfl rfl ?_
      refine rNil ?_
      refine qSeq ?_
      refine wRet ?_
      first | exact finT rfl ⟨by omega, by assumption⟩ | (refine finF rfl fun hw => ?_; obtain ⟨w1, w2⟩ := hw; first | exact h1_6 w2 | (have := w2.1; omega))
    · refine rpk (e := false) rfl rfl rfl rfl rfl rfl ?_
      refine raB rfl rfl rfl rfl rfl ?_
      refine rNil ?_
      refine qSeq ?_
      refine wRet ?_
      first | exact finT rfl ⟨by omega, by assumption⟩ | (refine finF rfl fun hw => ?_; obtain ⟨w1, w2⟩ := hw; first | exact h1_6 w2 | (have := w2.1; omega))
  · refine rmB rfl rfl rfl rfl rfl ?_
    refine rSkip rfl rfl rfl ?_
    refine rSkip rfl rfl rfl ?_
    refine rpk (e := false) rfl rfl rfl rfl rfl rfl ?_
    refine raB rfl rfl rfl rfl rfl ?_
    refine rNil ?_
    refine qSeq ?_
    refine wRet ?_
    first | exact finT rfl ⟨by omega, by assumption⟩ | (refine finF rfl fun hw => ?_; obtain ⟨w1, w2⟩ := hw; first | exact h1_6 w2 | (have := w2.1; omega))

structure Rq where
  cl : Int
  st : Int
  kd : Int
  le : Int
  nm : ByteArray
def Rq.T (r : Rq) : List T := [.int .i64 r.cl, .int .i64 r.st, .int .i64 r.kd, .int .i64 r.le, .str r.nm]
def Rq.OK (r : Rq) : Prop := (0 ≤ r.cl ∧ r.cl ≤ 255) ∧ (1 ≤ r.st ∧ r.st ≤ 65535) ∧ (1 ≤ r.kd ∧ r.kd ≤ 4) ∧ (0 ≤ r.le ∧ r.le ≤ 1000) ∧ opName r.nm ∧ (r.le > 0 ↔ (r.kd = 1 ∨ r.kd = 3))
noncomputable instance (r : Rq) : Decidable r.OK := Classical.propDecidable _

end Go.Proofs.Ytknnniaoboaghaa
