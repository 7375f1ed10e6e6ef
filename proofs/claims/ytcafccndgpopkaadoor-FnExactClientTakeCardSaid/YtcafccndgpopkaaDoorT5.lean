import Derived.Test.YtcafccndgpopkaaDoorU4
namespace Go.Proofs.YtcafccndgpopkaaDoor
open Go.V
set_option linter.unusedVariables false
set_option linter.unusedSimpArgs false
set_option maxRecDepth 20000
set_option maxHeartbeats 4000000

/-! spec's own words, requests, nodes, numbers. -/
theorem s50 (a b c : Int) : Pure En 50 [.one (.int .i64 a), .one (.int .i64 b), .one (.int .i64 c)] [.one (.bool (decide (b ≤ a ∧ a ≤ c)))] := by
  refine Pure.of_wp Tryd.func50 rfl (Nat.le_of_ble_eq_true rfl) ?_
  refine wSeq ?_
  refine wRegion ?_
  refine raB rfl rfl rfl rfl rfl ?_
  refine rNil ?_
  refine qSeq ?_
  refine wSeq ?_
  refine wRegion ?_
  refine rmI rfl rfl rfl rfl rfl ?_
  refine rmI rfl rfl rfl rfl rfl ?_
  refine rge rfl rfl rfl rfl rfl rfl ?_ ?_ <;> intro h1_2
  · refine rmB rfl rfl rfl rfl rfl ?_
    refine rmI rfl rfl rfl rfl rfl ?_
    refine rmI rfl rfl rfl rfl rfl ?_
    refine rle rfl rfl rfl rfl rfl rfl ?_ ?_ <;> intro h1_6
    · refine rpk (e := true) rfl rfl rfl rfl rfl rfl ?_
      refine raB rfl rfl rfl rfl rfl ?_
      refine rNil ?_
      refine qSeq ?_
      refine wRet ?_
      first | (refine finT rfl ?_; omega) | (refine finF rfl ?_; omega)
    · refine rpk (e := false) rfl rfl rfl rfl rfl rfl ?_
      refine raB rfl rfl rfl rfl rfl ?_
      refine rNil ?_
      refine qSeq ?_
      refine wRet ?_
      first | (refine finT rfl ?_; omega) | (refine finF rfl ?_; omega)
  · refine rmB rfl rfl rfl rfl rfl ?_
    refine rSkip rfl rfl rfl ?_
    refine rSkip rfl rfl rfl ?_
    refine rSkip rfl rfl rfl ?_
    refine rpk (e := false) rfl rfl rfl rfl rfl rfl ?_
    refine raB rfl rfl rfl rfl rfl ?_
    refine rNil ?_
    refine qSeq ?_
    refine wRet ?_
    first | (refine finT rfl ?_; omega) | (refine finF rfl ?_; omega)
theorem s115 (a : Int) : Pure En 115 [.one (.int .u8 a)] [.one (.bool (decide (letter a)))] := by
  refine Pure.of_wp Tryd.func115 rfl (Nat.le_of_ble_eq_true rfl) ?_
  refine wSeq ?_
  refine wRegion ?_
  refine raB rfl rfl rfl rfl rfl ?_
  refine rNil ?_
  refine qSeq ?_
  refine wSeq ?_
  refine wRegion ?_
  refine rmI rfl rfl rfl rfl rfl ?_
  refine rge rfl rfl rfl rfl rfl rfl ?_ ?_ <;> intro h1_1
  · refine rmB rfl rfl rfl rfl rfl ?_
    refine rmI rfl rfl rfl rfl rfl ?_
    refine rle rfl rfl rfl rfl rfl rfl ?_ ?_ <;> intro h1_4
    · refine rpk (e := true) rfl rfl rfl rfl rfl rfl ?_
      refine rmB rfl rfl rfl rfl rfl ?_
      refine rSkip rfl rfl rfl ?_
      refine rSkip rfl rfl rfl ?_
      refine rSkip rfl rfl rfl ?_
      refine rSkip rfl rfl rfl ?_
      refine rSkip rfl rfl rfl ?_
      refine rSkip rfl rfl rfl ?_
      refine rpk (e := true) rfl rfl rfl rfl rfl rfl ?_
      refine rmB rfl rfl rfl rfl rfl ?_
      refine rSkip rfl rfl rfl ?_
      refine rSkip rfl rfl rfl ?_
      refine rpk (e := true) rfl rfl rfl rfl rfl rfl ?_
      refine raB rfl rfl rfl rfl rfl ?_
      refine rNil ?_
      refine qSeq ?_
      refine wRet ?_
      first | (refine finT rfl ?_; unfold letter; omega) | (refine finF rfl ?_; unfold letter; omega)
    · refine rpk (e := false) rfl rfl rfl rfl rfl rfl ?_
      refine rmB rfl rfl rfl rfl rfl ?_
      refine rmI rfl rfl rfl rfl rfl ?_
      refine rge rfl rfl rfl rfl rfl rfl ?_ ?_ <;> intro h1_8
      · refine rmB rfl rfl rfl rfl rfl ?_
        refine rmI rfl rfl rfl rfl rfl ?_
        refine rle rfl rfl rfl rfl rfl rfl ?_ ?_ <;> intro h1_11
        · refine rpk (e := true) rfl rfl rfl rfl rfl rfl ?_
          refine rpk (e := true) rfl rfl rfl rfl rfl rfl ?_
          refine rmB rfl rfl rfl rfl rfl ?_
          refine rSkip rfl rfl rfl ?_
          refine rSkip rfl rfl rfl ?_
          refine rpk (e := true) rfl rfl rfl rfl rfl rfl ?_
          refine raB rfl rfl rfl rfl rfl ?_
          refine rNil ?_
          refine qSeq ?_
          refine wRet ?_
          first | (refine finT rfl ?_; unfold letter; omega) | (refine finF rfl ?_; unfold letter; omega)
        · refine rpk (e := false) rfl rfl rfl rfl rfl rfl ?_
          refine rpk (e := false) rfl rfl rfl rfl rfl rfl ?_
          refine rmB rfl rfl rfl rfl rfl ?_
          refine rmI rfl rfl rfl rfl rfl ?_
          refine req rfl rfl rfl rfl rfl rfl ?_ ?_ <;> intro h1_16
          · refine rpk (e := true) rfl rfl rfl rfl rfl rfl ?_
            refine raB rfl rfl rfl rfl rfl ?_
            refine rNil ?_
            refine qSeq ?_
            refine wRet ?_
            first | (refine finT rfl ?_; unfold letter; omega) | (refine finF rfl ?_; unfold letter; omega)
          · refine rpk (e := false) rfl rfl rfl rfl rfl rfl ?_
            refine raB rfl rfl rfl rfl rfl ?_
            refine rNil ?_
            refine qSeq ?_
            refine wRet ?_
            first | (refine finT rfl ?_; unfold letter; omega) | (refine finF rfl ?_; unfold letter; omega)
      · refine rmB rfl rfl rfl rfl rfl ?_
        refine rSkip rfl rfl rfl ?_
        refine rSkip rfl rfl rfl ?_
        refine rpk (e := false) rfl rfl rfl rfl rfl rfl ?_
        refine rpk (e := false) rfl rfl rfl rfl rfl rfl ?_
        refine rmB rfl rfl rfl rfl rfl ?_
        refine rmI rfl rfl rfl rfl rfl ?_
        refine req rfl rfl rfl rfl rfl rfl ?_ ?_ <;> intro h1_16
        · refine rpk (e := true) rfl rfl rfl rfl rfl rfl ?_
          refine raB rfl rfl rfl rfl rfl ?_
          refine rNil ?_
          refine qSeq ?_
          refine wRet ?_
          first | (refine finT rfl ?_; unfold letter; omega) | (refine finF rfl ?_; unfold letter; omega)
        · refine rpk (e := false) rfl rfl rfl rfl rfl rfl ?_
          refine raB rfl rfl rfl rfl rfl ?_
          refine rNil ?_
          refine qSeq ?_
          refine wRet ?_
          first | (refine finT rfl ?_; unfold letter; omega) | (refine finF rfl ?_; unfold letter; omega)
  · refine rmB rfl rfl rfl rfl rfl ?_
    refine rSkip rfl rfl rfl ?_
    refine rSkip rfl rfl rfl ?_
    refine rpk (e := false) rfl rfl rfl rfl rfl rfl ?_
    refine rmB rfl rfl rfl rfl rfl ?_
    refine rmI rfl rfl rfl rfl rfl ?_
    refine rge rfl rfl rfl rfl rfl rfl ?_ ?_ <;> intro h1_8
    · refine rmB rfl rfl rfl rfl rfl ?_
      refine rmI rfl rfl rfl rfl rfl ?_
      refine rle rfl rfl rfl rfl rfl rfl ?_ ?_ <;> intro h1_11
      · refine rpk (e := true) rfl rfl rfl rfl rfl rfl ?_
        refine rpk (e := true) rfl rfl rfl rfl rfl rfl ?_
        refine rmB rfl rfl rfl rfl rfl ?_
        refine rSkip rfl rfl rfl ?_
        refine rSkip rfl rfl rfl ?_
        refine rpk (e := true) rfl rfl rfl rfl rfl rfl ?_
        refine raB rfl rfl rfl rfl rfl ?_
        refine rNil ?_
        refine qSeq ?_
        refine wRet ?_
        first | (refine finT rfl ?_; unfold letter; omega) | (refine finF rfl ?_; unfold letter; omega)
      · refine rpk (e := false) rfl rfl rfl rfl rfl rfl ?_
        refine rpk (e := false) rfl rfl rfl rfl rfl rfl ?_
        refine rmB rfl rfl rfl rfl rfl ?_
        refine rmI rfl rfl rfl rfl rfl ?_
        refine req rfl rfl rfl rfl rfl rfl ?_ ?_ <;> intro h1_16
        · refine rpk (e := true) rfl rfl rfl rfl rfl rfl ?_
          refine raB rfl rfl rfl rfl rfl ?_
          refine rNil ?_
          refine qSeq ?_
          refine wRet ?_
          first | (refine finT rfl ?_; unfold letter; omega) | (refine finF rfl ?_; unfold letter; omega)
        · refine rpk (e := false) rfl rfl rfl rfl rfl rfl ?_
          refine raB rfl rfl rfl rfl rfl ?_
          refine rNil ?_
          refine qSeq ?_
          refine wRet ?_
          first | (refine finT rfl ?_; unfold letter; omega) | (refine finF rfl ?_; unfold letter; omega)
    · refine rmB rfl rfl rfl rfl rfl ?_
      refine rSkip rfl rfl rfl ?_
      refine rSkip rfl rfl rfl ?_
      refine rpk (e := false) rfl rfl rfl rfl rfl rfl ?_
      refine rpk (e := false) rfl rfl rfl rfl rfl rfl ?_
      refine rmB rfl rfl rfl rfl rfl ?_
      refine rmI rfl rfl rfl rfl rfl ?_
      refine req rfl rfl rfl rfl rfl rfl ?_ ?_ <;> intro h1_16
      · refine rpk (e := true) rfl rfl rfl rfl rfl rfl ?_
        refine raB rfl rfl rfl rfl rfl ?_
        refine rNil ?_
        refine qSeq ?_
        refine wRet ?_
        first | (refine finT rfl ?_; unfold letter; omega) | (refine finF rfl ?_; unfold letter; omega)
      · refine rpk (e := false) rfl rfl rfl rfl rfl rfl ?_
        refine raB rfl rfl rfl rfl rfl ?_
        refine rNil ?_
        refine qSeq ?_
        refine wRet ?_
        first | (refine finT rfl ?_; unfold letter; omega) | (refine finF rfl ?_; unfold letter; omega)
theorem s116 (a : Int) : Pure En 116 [.one (.int .u8 a)] [.one (.bool (decide (digit a)))] := by
  refine Pure.of_wp Tryd.func116 rfl (Nat.le_of_ble_eq_true rfl) ?_
  refine wSeq ?_
  refine wRegion ?_
  refine raB rfl rfl rfl rfl rfl ?_
  refine rNil ?_
  refine qSeq ?_
  refine wSeq ?_
  refine wRegion ?_
  refine rmI rfl rfl rfl rfl rfl ?_
  refine rge rfl rfl rfl rfl rfl rfl ?_ ?_ <;> intro h1_1
  · refine rmB rfl rfl rfl rfl rfl ?_
    refine rmI rfl rfl rfl rfl rfl ?_
    refine rle rfl rfl rfl rfl rfl rfl ?_ ?_ <;> intro h1_4
    · refine rpk (e := true) rfl rfl rfl rfl rfl rfl ?_
      refine raB rfl rfl rfl rfl rfl ?_
      refine rNil ?_
      refine qSeq ?_
      refine wRet ?_
      first | (refine finT rfl ?_; unfold digit; omega) | (refine finF rfl ?_; unfold digit; omega)
    · refine rpk (e := false) rfl rfl rfl rfl rfl rfl ?_
      refine raB rfl rfl rfl rfl rfl ?_
      refine rNil ?_
      refine qSeq ?_
      refine wRet ?_
      first | (refine finT rfl ?_; unfold digit; omega) | (refine finF rfl ?_; unfold digit; omega)
  · refine rmB rfl rfl rfl rfl rfl ?_
    refine rSkip rfl rfl rfl ?_
    refine rSkip rfl rfl rfl ?_
    refine rpk (e := false) rfl rfl rfl rfl rfl rfl ?_
    refine raB rfl rfl rfl rfl rfl ?_
    refine rNil ?_
    refine qSeq ?_
    refine wRet ?_
    first | (refine finT rfl ?_; unfold digit; omega) | (refine finF rfl ?_; unfold digit; omega)
theorem s102 (s : ByteArray) : Pure En 102 [.one (.str s)] [.one (.bool (decide (word s)))] := by
  refine Pure.of_wp Tryd.func102 rfl (Nat.le_of_ble_eq_true rfl) ?_
  refine wSeq ?_
  refine wRegion ?_
  refine raB rfl rfl rfl rfl rfl ?_
  refine rNil ?_
  refine qSeq ?_
  refine wSeq ?_
  refine wSeq ?_
  refine wRegion ?_
  refine rmS rfl rfl rfl rfl rfl ?_
  refine rls rfl rfl rfl rfl rfl rfl ?_
  refine rlt rfl rfl rfl rfl rfl rfl ?_ ?_ <;> intro h1_2
  · refine rmB rfl rfl rfl rfl rfl ?_
    refine rSkip rfl rfl rfl ?_
    refine rSkip rfl rfl rfl ?_
    refine rSkip rfl rfl rfl ?_
    refine rpk (e := true) rfl rfl rfl rfl rfl rfl ?_
    refine rmB rfl rfl rfl rfl rfl ?_
    refine rSkip rfl rfl rfl ?_
    refine rSkip rfl rfl rfl ?_
    refine rSkip rfl rfl rfl ?_
    refine rSkip rfl rfl rfl ?_
    refine rpk (e := true) rfl rfl rfl rfl rfl rfl ?_
    refine rNil ?_
    refine qSeq ?_
    refine wT rfl ?_
    refine wSeq ?_
    refine wRegion ?_
    refine raB rfl rfl rfl rfl rfl ?_
    refine rNil ?_
    refine qSeq ?_
    refine wRet ?_
    refine qSeqR ?_
    first
      | exact finT rfl ⟨by omega, by omega, by assumption, fun j hj => hI.2.2 j (by omega)⟩
      | (refine finF rfl fun hw => ?_; obtain ⟨w1, w2, w3, w4⟩ := hw; first | omega | exact h1_11 w3 | exact (w4 i (by omega)).elim h6_3 h6_9)
  · refine rmB rfl rfl rfl rfl rfl ?_
    refine rmS rfl rfl rfl rfl rfl ?_
    refine rls rfl rfl rfl rfl rfl rfl ?_
    refine rgt rfl rfl rfl rfl rfl rfl ?_ ?_ <;> intro h1_6
    · refine rpk (e := true) rfl rfl rfl rfl rfl rfl ?_
      refine rmB rfl rfl rfl rfl rfl ?_
      refine rSkip rfl rfl rfl ?_
      refine rSkip rfl rfl rfl ?_
      refine rSkip rfl rfl rfl ?_
      refine rSkip rfl rfl rfl ?_
      refine rpk (e := true) rfl rfl rfl rfl rfl rfl ?_
      refine rNil ?_
      refine qSeq ?_
      refine wT rfl ?_
      refine wSeq ?_
      refine wRegion ?_
      refine raB rfl rfl rfl rfl rfl ?_
      refine rNil ?_
      refine qSeq ?_
      refine wRet ?_
      refine qSeqR ?_
      first
        | exact finT rfl ⟨by omega, by omega, by assumption, fun j hj => hI.2.2 j (by omega)⟩
        | (refine finF rfl fun hw => ?_; obtain ⟨w1, w2, w3, w4⟩ := hw; first | omega | exact h1_11 w3 | exact (w4 i (by omega)).elim h6_3 h6_9)
    · refine rpk (e := false) rfl rfl rfl rfl rfl rfl ?_
      refine rmB rfl rfl rfl rfl rfl ?_
      refine rmS rfl rfl rfl rfl rfl ?_
      refine rixsK (i := 0) rfl rfl rfl rfl ?_ ?_ rfl rfl rfl rfl ?_
      · (first | omega | assumption | (focus (simp; omega)))
      · (first | omega | assumption | (focus (simp; omega)))
      refine rclP (s115 _) rfl rfl rfl rfl rfl rfl ?_ ?_ <;> intro h1_11
      · refine rnot (c := true) rfl rfl rfl rfl rfl ?_
        refine rpk (e := false) rfl rfl rfl rfl rfl rfl ?_
        refine rNil ?_
        refine qSeq ?_
        refine wF rfl ?_
        refine wSkip ?_
        refine qSeq ?_
        refine wSeq ?_
        refine wSeq ?_
        refine wRegion ?_
        refine raI rfl rfl rfl rfl rfl ?_
        refine rNil ?_
        refine qSeq ?_
        refine wBlock ?_
        refine wLoop ?_
        refine loopGo0 (fun (i : Nat) => [.str s, .unk, .unk, .int .i64 i]) (fun (i : Nat) => 1 ≤ i ∧ i ≤ s.size ∧ ∀ j, j < i → letter (bt s j) ∨ digit (bt s j)) (fun (i : Nat) => s.size - i) 1 ?_ ?_ ?_
        · exact ⟨by omega, by omega, allS all0 (.inl h1_11)⟩
        · (repeat first | exact LE.nil _ | refine LE.unk _ _ ?_ | refine LE.eq _ _ _ rfl ?_)
        intro i hI ih
        refine lStep ?_
        refine wSeq ?_
        refine wSeq ?_
        refine wRegion ?_
        refine rmI rfl rfl rfl rfl rfl ?_
        refine rmS rfl rfl rfl rfl rfl ?_
        refine rls rfl rfl rfl rfl rfl rfl ?_
        refine rlt rfl rfl rfl rfl rfl rfl ?_ ?_ <;> intro h4_3
        · refine rNil ?_
          refine qSeq ?_
          refine wT rfl ?_
          refine wSkip ?_
          refine qSeq ?_
          refine wSeq ?_
          refine wBlock ?_
          refine wSeq ?_
          refine wRegion ?_
          refine rmS rfl rfl rfl rfl rfl ?_
          refine rmI rfl rfl rfl rfl rfl ?_
          refine rixs rfl rfl rfl rfl ?_ ?_ rfl rfl rfl ?_
          · (first | omega | assumption | (focus (simp; omega)))
          · (first | omega | assumption | (focus (simp; omega)))
          refine rclP (s115 _) rfl rfl rfl rfl rfl rfl ?_ ?_ <;> intro h6_3
          · refine rnot (c := true) rfl rfl rfl rfl rfl ?_
            refine rmB rfl rfl rfl rfl rfl ?_
            refine rSkip rfl rfl rfl ?_
            refine rSkip rfl rfl rfl ?_
            refine rSkip rfl rfl rfl ?_
            refine rSkip rfl rfl rfl ?_
            refine rSkip rfl rfl rfl ?_
            refine rpk (e := false) rfl rfl rfl rfl rfl rfl ?_
            refine rNil ?_
            refine qSeq ?_
            refine wF rfl ?_
            refine wSkip ?_
            refine qBlock ?_
            refine qSeq ?_
            refine wRegion ?_
            refine rmI rfl rfl rfl rfl rfl ?_
            refine raddF rfl rfl rfl ?_ ?_ rfl rfl rfl ?_
            · (first | omega | assumption | (focus (simp; omega)))
            · (first | omega | assumption | (focus (simp; omega)))
            refine raI rfl rfl rfl rfl rfl ?_
            refine rNil ?_
            refine qLoop ?_
            exact wlN (ih (i + 1) ⟨by omega, by omega, allS hI.2.2 (by first | exact .inl h6_3 | exact .inr h6_9)⟩ (by omega)) (by (repeat first | exact LE.nil _ | refine LE.unk _ _ ?_ | refine LE.eq _ _ _ rfl ?_))
          · refine rnot (c := false) rfl rfl rfl rfl rfl ?_
            refine rmB rfl rfl rfl rfl rfl ?_
            refine rmS rfl rfl rfl rfl rfl ?_
            refine rmI rfl rfl rfl rfl rfl ?_
            refine rixs rfl rfl rfl rfl ?_ ?_ rfl rfl rfl ?_
            · (first | omega | assumption | (focus (simp; omega)))
            · (first | omega | assumption | (focus (simp; omega)))
            refine rclP (s116 _) rfl rfl rfl rfl rfl rfl ?_ ?_ <;> intro h6_9
            · refine rnot (c := true) rfl rfl rfl rfl rfl ?_
              refine rpk (e := false) rfl rfl rfl rfl rfl rfl ?_
              refine rNil ?_
              refine qSeq ?_
              refine wF rfl ?_
              refine wSkip ?_
              refine qBlock ?_
              refine qSeq ?_
              refine wRegion ?_
              refine rmI rfl rfl rfl rfl rfl ?_
              refine raddF rfl rfl rfl ?_ ?_ rfl rfl rfl ?_
              · (first | omega | assumption | (focus (simp; omega)))
              · (first | omega | assumption | (focus (simp; omega)))
              refine raI rfl rfl rfl rfl rfl ?_
              refine rNil ?_
              refine qLoop ?_
              exact wlN (ih (i + 1) ⟨by omega, by omega, allS hI.2.2 (by first | exact .inl h6_3 | exact .inr h6_9)⟩ (by omega)) (by (repeat first | exact LE.nil _ | refine LE.unk _ _ ?_ | refine LE.eq _ _ _ rfl ?_))
            · refine rnot (c := false) rfl rfl rfl rfl rfl ?_
              refine rpk (e := true) rfl rfl rfl rfl rfl rfl ?_
              refine rNil ?_
              refine qSeq ?_
              refine wT rfl ?_
              refine wSeq ?_
              refine wRegion ?_
              refine raB rfl rfl rfl rfl rfl ?_
              refine rNil ?_
              refine qSeq ?_
              refine wRet ?_
              refine qBlockR ?_
              refine qSeqR ?_
              refine qLoopR ?_
              refine qBlockR ?_
              refine qSeqR ?_
              first
                | exact finT rfl ⟨by omega, by omega, by assumption, fun j hj => hI.2.2 j (by omega)⟩
                | (refine finF rfl fun hw => ?_; obtain ⟨w1, w2, w3, w4⟩ := hw; first | omega | exact h1_11 w3 | exact (w4 i (by omega)).elim h6_3 h6_9)
        · refine rNil ?_
          refine qSeq ?_
          refine wF rfl ?_
          refine wExit ?_
          refine qSeqX ?_
          refine qLoopX ?_
          refine qBlockX ?_
          refine qSeq ?_
          refine wSeq ?_
          refine wRegion ?_
          refine raB rfl rfl rfl rfl rfl ?_
          refine rNil ?_
          refine qSeq ?_
          refine wRet ?_
          first
            | exact finT rfl ⟨by omega, by omega, by assumption, fun j hj => hI.2.2 j (by omega)⟩
            | (refine finF rfl fun hw => ?_; obtain ⟨w1, w2, w3, w4⟩ := hw; first | omega | exact h1_11 w3 | exact (w4 i (by omega)).elim h6_3 h6_9)
      · refine rnot (c := false) rfl rfl rfl rfl rfl ?_
        refine rpk (e := true) rfl rfl rfl rfl rfl rfl ?_
        refine rNil ?_
        refine qSeq ?_
        refine wT rfl ?_
        refine wSeq ?_
        refine wRegion ?_
        refine raB rfl rfl rfl rfl rfl ?_
        refine rNil ?_
        refine qSeq ?_
        refine wRet ?_
        refine qSeqR ?_
        first
          | exact finT rfl ⟨by omega, by omega, by assumption, fun j hj => hI.2.2 j (by omega)⟩
          | (refine finF rfl fun hw => ?_; obtain ⟨w1, w2, w3, w4⟩ := hw; first | omega | exact h1_11 w3 | exact (w4 i (by omega)).elim h6_3 h6_9)
theorem s90 (s : ByteArray) : Pure En 90 [.one (.str s)] [.one (.bool (decide (word s)))] := by
  refine Pure.of_wp Tryd.func90 rfl (Nat.le_of_ble_eq_true rfl) ?_
  refine wSeq ?_
  refine wRegion ?_
  refine raB rfl rfl rfl rfl rfl ?_
  refine rNil ?_
  refine qSeq ?_
  refine wSeq ?_
  refine wRegion ?_
  refine rmS rfl rfl rfl rfl rfl ?_
  refine rclP (s102 _) rfl rfl rfl rfl rfl rfl ?_ ?_ <;> intro h1_1
  · refine raB rfl rfl rfl rfl rfl ?_
    refine rNil ?_
    refine qSeq ?_
    refine wRet ?_
    first | exact finT rfl (by assumption) | exact finF rfl (by assumption)
  · refine raB rfl rfl rfl rfl rfl ?_
    refine rNil ?_
    refine qSeq ?_
    refine wRet ?_
    first | exact finT rfl (by assumption) | exact finF rfl (by assumption)
theorem s76 (s : ByteArray) (n : Int) : Pure En 76 [.one (.str s), .one (.int .i64 n)] [.one (.bool (decide (s.size ≤ n ∧ word s)))] := by
  refine Pure.of_wp Tryd.func76 rfl (Nat.le_of_ble_eq_true rfl) ?_
  refine wSeq ?_
  refine wRegion ?_
  refine raB rfl rfl rfl rfl rfl ?_
  refine rNil ?_
  refine qSeq ?_
  refine wSeq ?_
  refine wRegion ?_
  refine rmS rfl rfl rfl rfl rfl ?_
  refine rls rfl rfl rfl rfl rfl rfl ?_
  refine rmI rfl rfl rfl rfl rfl ?_
  refine rclP (s50 _ _ _) rfl rfl rfl rfl rfl rfl ?_ ?_ <;> intro h1_3
  · refine rmB rfl rfl rfl rfl rfl ?_
    refine rmS rfl rfl rfl rfl rfl ?_
    refine rclP (s90 _) rfl rfl rfl rfl rfl rfl ?_ ?_ <;> intro h1_6
    · refine rpk (e := true) rfl rfl rfl rfl rfl rfl ?_
      refine raB rfl rfl rfl rfl rfl ?_
      refine rNil ?_
      refine qSeq ?_
      refine wRet ?_
      first | exact finT rfl ⟨by omega, by assumption⟩ | (refine finF rfl fun hw => ?_; obtain ⟨w1, w2⟩ := hw; first | exact h1_6 w2 | (have := w2.1; omega))
    · refine rpk (e := false) rfl rfl rfl rfl rfl rfl ?_
      refine raB rfl rfl rfl rfl rfl ?_
      refine rNil ?_
      refine qSeq ?_
      refine wRet ?_
      first | exact finT rfl ⟨by omega, by assumption⟩ | (refine finF rfl fun hw => ?_; obtain ⟨w1, w2⟩ := hw; first | exact h1_6 w2 | (have := w2.1; omega))
  · refine rmB rfl rfl rfl rfl rfl ?_
    refine rSkip rfl rfl rfl ?_
    refine rSkip rfl rfl rfl ?_
    refine rpk (e := false) rfl rfl rfl rfl rfl rfl ?_
    refine raB rfl rfl rfl rfl rfl ?_
    refine rNil ?_
    refine qSeq ?_
    refine wRet ?_
    first | exact finT rfl ⟨by omega, by assumption⟩ | (refine finF rfl fun hw => ?_; obtain ⟨w1, w2⟩ := hw; first | exact h1_6 w2 | (have := w2.1; omega))
theorem s52 (r : Rq) : Pure En 52 [.agg r.T] [.one (.bool (decide r.OK))] := by
  refine Pure.of_wp Tryd.func52 rfl (Nat.le_of_ble_eq_true rfl) ?_
  refine wSeq ?_
  refine wRegion ?_
  refine rbx (u := .agg [.int _ _, .int _ _, .int _ _, .int _ _, .str _]) rfl rfl rfl rfl rfl rfl rfl ?_
  refine raB rfl rfl rfl rfl rfl ?_
  refine rNil ?_
  refine qSeq ?_
  refine wSeq ?_
  refine wRegion ?_
  refine rfa (off := 0) (s := 1) (r := false) rfl rfl rfl (Nat.succ_ne_zero _) rfl rfl rfl ?_
  refine rlc (v := .int _ _) rfl rfl rfl rfl rfl rfl rfl rfl rfl ?_
  refine rclP (s50 _ _ _) rfl rfl rfl rfl rfl rfl ?_ ?_ <;> intro h1_2
  · refine rmB rfl rfl rfl rfl rfl ?_
    refine rfa (off := 1) (s := 1) (r := false) rfl rfl rfl (Nat.succ_ne_zero _) rfl rfl rfl ?_
    refine rlc (v := .int _ _) rfl rfl rfl rfl rfl rfl rfl rfl rfl ?_
    refine rclP (s50 _ _ _) rfl rfl rfl rfl rfl rfl ?_ ?_ <;> intro h1_6
    · refine rpk (e := true) rfl rfl rfl rfl rfl rfl ?_
      refine rmB rfl rfl rfl rfl rfl ?_
      refine rfa (off := 2) (s := 1) (r := false) rfl rfl rfl (Nat.succ_ne_zero _) rfl rfl rfl ?_
      refine rlc (v := .int _ _) rfl rfl rfl rfl rfl rfl rfl rfl rfl ?_
      refine rclP (s50 _ _ _) rfl rfl rfl rfl rfl rfl ?_ ?_ <;> intro h1_11
      · refine rpk (e := true) rfl rfl rfl rfl rfl rfl ?_
        refine rmB rfl rfl rfl rfl rfl ?_
        refine rfa (off := 3) (s := 1) (r := false) rfl rfl rfl (Nat.succ_ne_zero _) rfl rfl rfl ?_
        refine rlc (v := .int _ _) rfl rfl rfl rfl rfl rfl rfl rfl rfl ?_
        refine rclP (s50 _ _ _) rfl rfl rfl rfl rfl rfl ?_ ?_ <;> intro h1_16
        · refine rpk (e := true) rfl rfl rfl rfl rfl rfl ?_
          refine rmB rfl rfl rfl rfl rfl ?_
          refine rfa (off := 4) (s := 1) (r := false) rfl rfl rfl (Nat.succ_ne_zero _) rfl rfl rfl ?_
          refine rlc (v := .str _) rfl rfl rfl rfl rfl rfl rfl rfl rfl ?_
          refine rclP (s76 _ _) rfl rfl rfl rfl rfl rfl ?_ ?_ <;> intro h1_21
          · refine rpk (e := true) rfl rfl rfl rfl rfl rfl ?_
            refine rmB rfl rfl rfl rfl rfl ?_
            refine rfa (off := 3) (s := 1) (r := false) rfl rfl rfl (Nat.succ_ne_zero _) rfl rfl rfl ?_
            refine rlc (v := .int _ _) rfl rfl rfl rfl rfl rfl rfl rfl rfl ?_
            refine rgt rfl rfl rfl rfl rfl rfl ?_ ?_ <;> intro h1_26
            · refine rfa (off := 2) (s := 1) (r := false) rfl rfl rfl (Nat.succ_ne_zero _) rfl rfl rfl ?_
              refine rlc (v := .int _ _) rfl rfl rfl rfl rfl rfl rfl rfl rfl ?_
              refine req rfl rfl rfl rfl rfl rfl ?_ ?_ <;> intro h1_29
              · refine rmB rfl rfl rfl rfl rfl ?_
                refine rSkip rfl rfl rfl ?_
                refine rSkip rfl rfl rfl ?_
                refine rSkip rfl rfl rfl ?_
                refine rpk (e := true) rfl rfl rfl rfl rfl rfl ?_
                refine rbeq (c := true) (e := true) rfl rfl rfl rfl rfl rfl rfl ?_
                refine rpk (e := true) rfl rfl rfl rfl rfl rfl ?_
                refine raB rfl rfl rfl rfl rfl ?_
                refine rNil ?_
                refine qSeq ?_
                refine wRet ?_
                first
                  | exact finT rfl ⟨by omega, by omega, by omega, by omega, ⟨by omega, h1_21.2⟩, by omega⟩
                  | (refine finF rfl fun hw => ?_; obtain ⟨w1, w2, w3, w4, w5, w6⟩ := hw; first | omega | exact h1_21 ⟨by have := w5.1; omega, w5.2⟩)
              · refine rmB rfl rfl rfl rfl rfl ?_
                refine rfa (off := 2) (s := 1) (r := false) rfl rfl rfl (Nat.succ_ne_zero _) rfl rfl rfl ?_
                refine rlc (v := .int _ _) rfl rfl rfl rfl rfl rfl rfl rfl rfl ?_
                refine req rfl rfl rfl rfl rfl rfl ?_ ?_ <;> intro h1_33
                · refine rpk (e := true) rfl rfl rfl rfl rfl rfl ?_
                  refine rbeq (c := true) (e := true) rfl rfl rfl rfl rfl rfl rfl ?_
                  refine rpk (e := true) rfl rfl rfl rfl rfl rfl ?_
                  refine raB rfl rfl rfl rfl rfl ?_
                  refine rNil ?_
                  refine qSeq ?_
                  refine wRet ?_
                  first
                    | exact finT rfl ⟨by omega, by omega, by omega, by omega, ⟨by omega, h1_21.2⟩, by omega⟩
                    | (refine finF rfl fun hw => ?_; obtain ⟨w1, w2, w3, w4, w5, w6⟩ := hw; first | omega | exact h1_21 ⟨by have := w5.1; omega, w5.2⟩)
                · refine rpk (e := false) rfl rfl rfl rfl rfl rfl ?_
                  refine rbeq (c := true) (e := false) rfl rfl rfl rfl rfl rfl rfl ?_
                  refine rpk (e := false) rfl rfl rfl rfl rfl rfl ?_
                  refine raB rfl rfl rfl rfl rfl ?_
                  refine rNil ?_
                  refine qSeq ?_
                  refine wRet ?_
                  first
                    | exact finT rfl ⟨by omega, by omega, by omega, by omega, ⟨by omega, h1_21.2⟩, by omega⟩
                    | (refine finF rfl fun hw => ?_; obtain ⟨w1, w2, w3, w4, w5, w6⟩ := hw; first | omega | exact h1_21 ⟨by have := w5.1; omega, w5.2⟩)
            · refine rfa (off := 2) (s := 1) (r := false) rfl rfl rfl (Nat.succ_ne_zero _) rfl rfl rfl ?_
              refine rlc (v := .int _ _) rfl rfl rfl rfl rfl rfl rfl rfl rfl ?_
              refine req rfl rfl rfl rfl rfl rfl ?_ ?_ <;> intro h1_29
              · refine rmB rfl rfl rfl rfl rfl ?_
                refine rSkip rfl rfl rfl ?_
                refine rSkip rfl rfl rfl ?_
                refine rSkip rfl rfl rfl ?_
                refine rpk (e := true) rfl rfl rfl rfl rfl rfl ?_
                refine rbeq (c := false) (e := true) rfl rfl rfl rfl rfl rfl rfl ?_
                refine rpk (e := false) rfl rfl rfl rfl rfl rfl ?_
                refine raB rfl rfl rfl rfl rfl ?_
                refine rNil ?_
                refine qSeq ?_
                refine wRet ?_
                first
                  | exact finT rfl ⟨by omega, by omega, by omega, by omega, ⟨by omega, h1_21.2⟩, by omega⟩
                  | (refine finF rfl fun hw => ?_; obtain ⟨w1, w2, w3, w4, w5, w6⟩ := hw; first | omega | exact h1_21 ⟨by have := w5.1; omega, w5.2⟩)
              · refine rmB rfl rfl rfl rfl rfl ?_
                refine rfa (off := 2) (s := 1) (r := false) rfl rfl rfl (Nat.succ_ne_zero _) rfl rfl rfl ?_
                refine rlc (v := .int _ _) rfl rfl rfl rfl rfl rfl rfl rfl rfl ?_
                refine req rfl rfl rfl rfl rfl rfl ?_ ?_ <;> intro h1_33
                · refine rpk (e := true) rfl rfl rfl rfl rfl rfl ?_
                  refine rbeq (c := false) (e := true) rfl rfl rfl rfl rfl rfl rfl ?_
                  refine rpk (e := false) rfl rfl rfl rfl rfl rfl ?_
                  refine raB rfl rfl rfl rfl rfl ?_
                  refine rNil ?_
                  refine qSeq ?_
                  refine wRet ?_
                  first
                    | exact finT rfl ⟨by omega, by omega, by omega, by omega, ⟨by omega, h1_21.2⟩, by omega⟩
                    | (refine finF rfl fun hw => ?_; obtain ⟨w1, w2, w3, w4, w5, w6⟩ := hw; first | omega | exact h1_21 ⟨by have := w5.1; omega, w5.2⟩)
                · refine rpk (e := false) rfl rfl rfl rfl rfl rfl ?_
                  refine rbeq (c := false) (e := false) rfl rfl rfl rfl rfl rfl rfl ?_
                  refine rpk (e := true) rfl rfl rfl rfl rfl rfl ?_
                  refine raB rfl rfl rfl rfl rfl ?_
                  refine rNil ?_
                  refine qSeq ?_
                  refine wRet ?_
                  first
                    | exact finT rfl ⟨by omega, by omega, by omega, by omega, ⟨by omega, h1_21.2⟩, by omega⟩
                    | (refine finF rfl fun hw => ?_; obtain ⟨w1, w2, w3, w4, w5, w6⟩ := hw; first | omega | exact h1_21 ⟨by have := w5.1; omega, w5.2⟩)
          · refine rpk (e := false) rfl rfl rfl rfl rfl rfl ?_
            refine rmB rfl rfl rfl rfl rfl ?_
            refine rSkip rfl rfl rfl ?_
            refine rSkip rfl rfl rfl ?_
            refine rSkip rfl rfl rfl ?_
            refine rSkip rfl rfl rfl ?_
            refine rSkip rfl rfl rfl ?_
            refine rSkip rfl rfl rfl ?_
            refine rSkip rfl rfl rfl ?_
            refine rSkip rfl rfl rfl ?_
            refine rSkip rfl rfl rfl ?_
            refine rSkip rfl rfl rfl ?_
            refine rSkip rfl rfl rfl ?_
            refine rSkip rfl rfl rfl ?_
            refine rpk (e := false) rfl rfl rfl rfl rfl rfl ?_
            refine raB rfl rfl rfl rfl rfl ?_
            refine rNil ?_
            refine qSeq ?_
            refine wRet ?_
            first
              | exact finT rfl ⟨by omega, by omega, by omega, by omega, ⟨by omega, h1_21.2⟩, by omega⟩
              | (refine finF rfl fun hw => ?_; obtain ⟨w1, w2, w3, w4, w5, w6⟩ := hw; first | omega | exact h1_21 ⟨by have := w5.1; omega, w5.2⟩)
        · refine rpk (e := false) rfl rfl rfl rfl rfl rfl ?_
          refine rmB rfl rfl rfl rfl rfl ?_
          refine rSkip rfl rfl rfl ?_
          refine rSkip rfl rfl rfl ?_
          refine rSkip rfl rfl rfl ?_
          refine rpk (e := false) rfl rfl rfl rfl rfl rfl ?_
          refine rmB rfl rfl rfl rfl rfl ?_
          refine rSkip rfl rfl rfl ?_
          refine rSkip rfl rfl rfl ?_
          refine rSkip rfl rfl rfl ?_
          refine rSkip rfl rfl rfl ?_
          refine rSkip rfl rfl rfl ?_
          refine rSkip rfl rfl rfl ?_
          refine rSkip rfl rfl rfl ?_
          refine rSkip rfl rfl rfl ?_
          refine rSkip rfl rfl rfl ?_
          refine rSkip rfl rfl rfl ?_
          refine rSkip rfl rfl rfl ?_
          refine rSkip rfl rfl rfl ?_
          refine rpk (e := false) rfl rfl rfl rfl rfl rfl ?_
          refine raB rfl rfl rfl rfl rfl ?_
          refine rNil ?_
          refine qSeq ?_
          refine wRet ?_
          first
            | exact finT rfl ⟨by omega, by omega, by omega, by omega, ⟨by omega, h1_21.2⟩, by omega⟩
            | (refine finF rfl fun hw => ?_; obtain ⟨w1, w2, w3, w4, w5, w6⟩ := hw; first | omega | exact h1_21 ⟨by have := w5.1; omega, w5.2⟩)
      · refine rpk (e := false) rfl rfl rfl rfl rfl rfl ?_
        refine rmB rfl rfl rfl rfl rfl ?_
        refine rSkip rfl rfl rfl ?_
        refine rSkip rfl rfl rfl ?_
        refine rSkip rfl rfl rfl ?_
        refine rpk (e := false) rfl rfl rfl rfl rfl rfl ?_
        refine rmB rfl rfl rfl rfl rfl ?_
        refine rSkip rfl rfl rfl ?_
        refine rSkip rfl rfl rfl ?_
        refine rSkip rfl rfl rfl ?_
        refine rpk (e := false) rfl rfl rfl rfl rfl rfl ?_
        refine rmB rfl rfl rfl rfl rfl ?_
        refine rSkip rfl rfl rfl ?_
        refine rSkip rfl rfl rfl ?_
        refine rSkip rfl rfl rfl ?_
        refine rSkip rfl rfl rfl ?_
        refine rSkip rfl rfl rfl ?_
        refine rSkip rfl rfl rfl ?_
        refine rSkip rfl rfl rfl ?_
        refine rSkip rfl rfl rfl ?_
        refine rSkip rfl rfl rfl ?_
        refine rSkip rfl rfl rfl ?_
        refine rSkip rfl rfl rfl ?_
        refine rSkip rfl rfl rfl ?_
        refine rpk (e := false) rfl rfl rfl rfl rfl rfl ?_
        refine raB rfl rfl rfl rfl rfl ?_
        refine rNil ?_
        refine qSeq ?_
        refine wRet ?_
        first
          | exact finT rfl ⟨by omega, by omega, by omega, by omega, ⟨by omega, h1_21.2⟩, by omega⟩
          | (refine finF rfl fun hw => ?_; obtain ⟨w1, w2, w3, w4, w5, w6⟩ := hw; first | omega | exact h1_21 ⟨by have := w5.1; omega, w5.2⟩)
    · refine rpk (e := false) rfl rfl rfl rfl rfl rfl ?_
      refine rmB rfl rfl rfl rfl rfl ?_
      refine rSkip rfl rfl rfl ?_
      refine rSkip rfl rfl rfl ?_
      refine rSkip rfl rfl rfl ?_
      refine rpk (e := false) rfl rfl rfl rfl rfl rfl ?_
      refine rmB rfl rfl rfl rfl rfl ?_
      refine rSkip rfl rfl rfl ?_
      refine rSkip rfl rfl rfl ?_
      refine rSkip rfl rfl rfl ?_
      refine rpk (e := false) rfl rfl rfl rfl rfl rfl ?_
      refine rmB rfl rfl rfl rfl rfl ?_
      refine rSkip rfl rfl rfl ?_
      refine rSkip rfl rfl rfl ?_
      refine rSkip rfl rfl rfl ?_
      refine rpk (e := false) rfl rfl rfl rfl rfl rfl ?_
      refine rmB rfl rfl rfl rfl rfl ?_
      refine rSkip rfl rfl rfl ?_
      refine rSkip rfl rfl rfl ?_
      refine rSkip rfl rfl rfl ?_
      refine rSkip rfl rfl rfl ?_
      refine rSkip rfl rfl rfl ?_
      refine rSkip rfl rfl rfl ?_
      refine rSkip rfl rfl rfl ?_
      refine rSkip rfl rfl rfl ?_
      refine rSkip rfl rfl rfl ?_
      refine rSkip rfl rfl rfl ?_
      refine rSkip rfl rfl rfl ?_
      refine rSkip rfl rfl rfl ?_
      refine rpk (e := false) rfl rfl rfl rfl rfl rfl ?_
      refine raB rfl rfl rfl rfl rfl ?_
      refine rNil ?_
      refine qSeq ?_
      refine wRet ?_
      first
        | exact finT rfl ⟨by omega, by omega, by omega, by omega, ⟨by omega, h1_21.2⟩, by omega⟩
        | (refine finF rfl fun hw => ?_; obtain ⟨w1, w2, w3, w4, w5, w6⟩ := hw; first | omega | exact h1_21 ⟨by have := w5.1; omega, w5.2⟩)
  · refine rmB rfl rfl rfl rfl rfl ?_
    refine rSkip rfl rfl rfl ?_
    refine rSkip rfl rfl rfl ?_
    refine rSkip rfl rfl rfl ?_
    refine rpk (e := false) rfl rfl rfl rfl rfl rfl ?_
    refine rmB rfl rfl rfl rfl rfl ?_
    refine rSkip rfl rfl rfl ?_
    refine rSkip rfl rfl rfl ?_
    refine rSkip rfl rfl rfl ?_
    refine rpk (e := false) rfl rfl rfl rfl rfl rfl ?_
    refine rmB rfl rfl rfl rfl rfl ?_
    refine rSkip rfl rfl rfl ?_
    refine rSkip rfl rfl rfl ?_
    refine rSkip rfl rfl rfl ?_
    refine rpk (e := false) rfl rfl rfl rfl rfl rfl ?_
    refine rmB rfl rfl rfl rfl rfl ?_
    refine rSkip rfl rfl rfl ?_
    refine rSkip rfl rfl rfl ?_
    refine rSkip rfl rfl rfl ?_
    refine rpk (e := false) rfl rfl rfl rfl rfl rfl ?_
    refine rmB rfl rfl rfl rfl rfl ?_
    refine rSkip rfl rfl rfl ?_
    refine rSkip rfl rfl rfl ?_
    refine rSkip rfl rfl rfl ?_
    refine rSkip rfl rfl rfl ?_
    refine rSkip rfl rfl rfl ?_
    refine rSkip rfl rfl rfl ?_
    refine rSkip rfl rfl rfl ?_
    refine rSkip rfl rfl rfl ?_
    refine rSkip rfl rfl rfl ?_
    refine rSkip rfl rfl rfl ?_
    refine rSkip rfl rfl rfl ?_
    refine rSkip rfl rfl rfl ?_
    refine rpk (e := false) rfl rfl rfl rfl rfl rfl ?_
    refine raB rfl rfl rfl rfl rfl ?_
    refine rNil ?_
    refine qSeq ?_
    refine wRet ?_
    first
      | exact finT rfl ⟨by omega, by omega, by omega, by omega, ⟨by omega, h1_21.2⟩, by omega⟩
      | (refine finF rfl fun hw => ?_; obtain ⟨w1, w2, w3, w4, w5, w6⟩ := hw; first | omega | exact h1_21 ⟨by have := w5.1; omega, w5.2⟩)
theorem s49 (n : Int) : Pure En 49 [.one (.int .i64 n)] [.one (.bool (decide (nodes n)))] := by
  refine Pure.of_wp Tryd.func49 rfl (Nat.le_of_ble_eq_true rfl) ?_
  refine wSeq ?_
  refine wRegion ?_
  refine raB rfl rfl rfl rfl rfl ?_
  refine rNil ?_
  refine qSeq ?_
  refine wSeq ?_
  refine wRegion ?_
  refine rmI rfl rfl rfl rfl rfl ?_
  refine req rfl rfl rfl rfl rfl rfl ?_ ?_ <;> intro h1_1
  · refine rmB rfl rfl rfl rfl rfl ?_
    refine rSkip rfl rfl rfl ?_
    refine rSkip rfl rfl rfl ?_
    refine rpk (e := true) rfl rfl rfl rfl rfl rfl ?_
    refine rmB rfl rfl rfl rfl rfl ?_
    refine rSkip rfl rfl rfl ?_
    refine rSkip rfl rfl rfl ?_
    refine rpk (e := true) rfl rfl rfl rfl rfl rfl ?_
    refine raB rfl rfl rfl rfl rfl ?_
    refine rNil ?_
    refine qSeq ?_
    refine wRet ?_
    first | (refine finT rfl ?_; unfold nodes; omega) | (refine finF rfl ?_; unfold nodes; omega)
  · refine rmB rfl rfl rfl rfl rfl ?_
    refine rmI rfl rfl rfl rfl rfl ?_
    refine req rfl rfl rfl rfl rfl rfl ?_ ?_ <;> intro h1_4
    · refine rpk (e := true) rfl rfl rfl rfl rfl rfl ?_
      refine rmB rfl rfl rfl rfl rfl ?_
      refine rSkip rfl rfl rfl ?_
      refine rSkip rfl rfl rfl ?_
      refine rpk (e := true) rfl rfl rfl rfl rfl rfl ?_
      refine raB rfl rfl rfl rfl rfl ?_
      refine rNil ?_
      refine qSeq ?_
      refine wRet ?_
      first | (refine finT rfl ?_; unfold nodes; omega) | (refine finF rfl ?_; unfold nodes; omega)
    · refine rpk (e := false) rfl rfl rfl rfl rfl rfl ?_
      refine rmB rfl rfl rfl rfl rfl ?_
      refine rmI rfl rfl rfl rfl rfl ?_
      refine req rfl rfl rfl rfl rfl rfl ?_ ?_ <;> intro h1_8
      · refine rpk (e := true) rfl rfl rfl rfl rfl rfl ?_
        refine raB rfl rfl rfl rfl rfl ?_
        refine rNil ?_
        refine qSeq ?_
        refine wRet ?_
        first | (refine finT rfl ?_; unfold nodes; omega) | (refine finF rfl ?_; unfold nodes; omega)
      · refine rpk (e := false) rfl rfl rfl rfl rfl rfl ?_
        refine raB rfl rfl rfl rfl rfl ?_
        refine rNil ?_
        refine qSeq ?_
        refine wRet ?_
        first | (refine finT rfl ?_; unfold nodes; omega) | (refine finF rfl ?_; unfold nodes; omega)
theorem s51 (a : An) : Pure En 51 [.agg a.T] [.one (.bool (decide a.OK))] := by
  refine Pure.of_wp Tryd.func51 rfl (Nat.le_of_ble_eq_true rfl) ?_
  refine wSeq ?_
  refine wRegion ?_
  refine rbx (u := .agg [.int _ _, .int _ _, .int _ _, .int _ _]) rfl rfl rfl rfl rfl rfl rfl ?_
  refine raB rfl rfl rfl rfl rfl ?_
  refine rNil ?_
  refine qSeq ?_
  refine wSeq ?_
  refine wRegion ?_
  refine rfa (off := 0) (s := 1) (r := false) rfl rfl rfl (Nat.succ_ne_zero _) rfl rfl rfl ?_
  refine rlc (v := .int _ _) rfl rfl rfl rfl rfl rfl rfl rfl rfl ?_
  refine rclP (s50 _ _ _) rfl rfl rfl rfl rfl rfl ?_ ?_ <;> intro h1_2
  · refine rmB rfl rfl rfl rfl rfl ?_
    refine rfa (off := 1) (s := 1) (r := false) rfl rfl rfl (Nat.succ_ne_zero _) rfl rfl rfl ?_
    refine rlc (v := .int _ _) rfl rfl rfl rfl rfl rfl rfl rfl rfl ?_
    refine rclP (s50 _ _ _) rfl rfl rfl rfl rfl rfl ?_ ?_ <;> intro h1_6
    · refine rpk (e := true) rfl rfl rfl rfl rfl rfl ?_
      refine rmB rfl rfl rfl rfl rfl ?_
      refine rfa (off := 2) (s := 1) (r := false) rfl rfl rfl (Nat.succ_ne_zero _) rfl rfl rfl ?_
      refine rlc (v := .int _ _) rfl rfl rfl rfl rfl rfl rfl rfl rfl ?_
      refine rclP (s50 _ _ _) rfl rfl rfl rfl rfl rfl ?_ ?_ <;> intro h1_11
      · refine rpk (e := true) rfl rfl rfl rfl rfl rfl ?_
        refine rmB rfl rfl rfl rfl rfl ?_
        refine rfa (off := 3) (s := 1) (r := false) rfl rfl rfl (Nat.succ_ne_zero _) rfl rfl rfl ?_
        refine rlc (v := .int _ _) rfl rfl rfl rfl rfl rfl rfl rfl rfl ?_
        refine rclP (s50 _ _ _) rfl rfl rfl rfl rfl rfl ?_ ?_ <;> intro h1_16
        · refine rpk (e := true) rfl rfl rfl rfl rfl rfl ?_
          refine raB rfl rfl rfl rfl rfl ?_
          refine rNil ?_
          refine qSeq ?_
          refine wRet ?_
          first | (refine finT rfl ?_; unfold An.OK; omega) | (refine finF rfl ?_; unfold An.OK; omega)
        · refine rpk (e := false) rfl rfl rfl rfl rfl rfl ?_
          refine raB rfl rfl rfl rfl rfl ?_
          refine rNil ?_
          refine qSeq ?_
          refine wRet ?_
          first | (refine finT rfl ?_; unfold An.OK; omega) | (refine finF rfl ?_; unfold An.OK; omega)
      · refine rpk (e := false) rfl rfl rfl rfl rfl rfl ?_
        refine rmB rfl rfl rfl rfl rfl ?_
        refine rSkip rfl rfl rfl ?_
        refine rSkip rfl rfl rfl ?_
        refine rSkip rfl rfl rfl ?_
        refine rpk (e := false) rfl rfl rfl rfl rfl rfl ?_
        refine raB rfl rfl rfl rfl rfl ?_
        refine rNil ?_
        refine qSeq ?_
        refine wRet ?_
        first | (refine finT rfl ?_; unfold An.OK; omega) | (refine finF rfl ?_; unfold An.OK; omega)
    · refine rpk (e := false) rfl rfl rfl rfl rfl rfl ?_
      refine rmB rfl rfl rfl rfl rfl ?_
      refine rSkip rfl rfl rfl ?_
      refine rSkip rfl rfl rfl ?_
      refine rSkip rfl rfl rfl ?_
      refine rpk (e := false) rfl rfl rfl rfl rfl rfl ?_
      refine rmB rfl rfl rfl rfl rfl ?_
      refine rSkip rfl rfl rfl ?_
      refine rSkip rfl rfl rfl ?_
      refine rSkip rfl rfl rfl ?_
      refine rpk (e := false) rfl rfl rfl rfl rfl rfl ?_
      refine raB rfl rfl rfl rfl rfl ?_
      refine rNil ?_
      refine qSeq ?_
      refine wRet ?_
      first | (refine finT rfl ?_; unfold An.OK; omega) | (refine finF rfl ?_; unfold An.OK; omega)
  · refine rmB rfl rfl rfl rfl rfl ?_
    refine rSkip rfl rfl rfl ?_
    refine rSkip rfl rfl rfl ?_
    refine rSkip rfl rfl rfl ?_
    refine rpk (e := false) rfl rfl rfl rfl rfl rfl ?_
    refine rmB rfl rfl rfl rfl rfl ?_
    refine rSkip rfl rfl rfl ?_
    refine rSkip rfl rfl rfl ?_
    refine rSkip rfl rfl rfl ?_
    refine rpk (e := false) rfl rfl rfl rfl rfl rfl ?_
    refine rmB rfl rfl rfl rfl rfl ?_
    refine rSkip rfl rfl rfl ?_
    refine rSkip rfl rfl rfl ?_
    refine rSkip rfl rfl rfl ?_
    refine rpk (e := false) rfl rfl rfl rfl rfl rfl ?_
    refine raB rfl rfl rfl rfl rfl ?_
    refine rNil ?_
    refine qSeq ?_
    refine wRet ?_
    first | (refine finT rfl ?_; unfold An.OK; omega) | (refine finF rfl ?_; unfold An.OK; omega)
theorem s77 (r : Rp) : Pure En 77 [.agg r.T] [.one (.bool (decide r.ok))] := by
  refine Pure.of_wp Tryd.func77 rfl (Nat.le_of_ble_eq_true rfl) ?_
  refine wSeq ?_
  refine wRegion ?_
  refine rbx (u := .agg [.int _ _, .int _ _, .int _ _, .int _ _, .int _ _, .int _ _, .int _ _, .str _]) rfl rfl rfl rfl rfl rfl rfl ?_
  refine raB rfl rfl rfl rfl rfl ?_
  refine rNil ?_
  refine qSeq ?_
  refine wSeq ?_
  refine wRegion ?_
  refine rfa (off := 0) (s := 1) (r := false) rfl rfl rfl (Nat.succ_ne_zero _) rfl rfl rfl ?_
  refine rlc (v := .int _ _) rfl rfl rfl rfl rfl rfl rfl rfl rfl ?_
  refine rclP (s50 _ _ _) rfl rfl rfl rfl rfl rfl ?_ ?_ <;> intro h1_2
  · refine rmB rfl rfl rfl rfl rfl ?_
    refine rfa (off := 1) (s := 1) (r := false) rfl rfl rfl (Nat.succ_ne_zero _) rfl rfl rfl ?_
    refine rlc (v := .int _ _) rfl rfl rfl rfl rfl rfl rfl rfl rfl ?_
    refine rclP (s50 _ _ _) rfl rfl rfl rfl rfl rfl ?_ ?_ <;> intro h1_6
    · refine rpk (e := true) rfl rfl rfl rfl rfl rfl ?_
      refine rmB rfl rfl rfl rfl rfl ?_
      refine rfa (off := 2) (s := 1) (r := false) rfl rfl rfl (Nat.succ_ne_zero _) rfl rfl rfl ?_
      refine rlc (v := .int _ _) rfl rfl rfl rfl rfl rfl rfl rfl rfl ?_
      refine rclP (s50 _ _ _) rfl rfl rfl rfl rfl rfl ?_ ?_ <;> intro h1_11
      · refine rpk (e := true) rfl rfl rfl rfl rfl rfl ?_
        refine rmB rfl rfl rfl rfl rfl ?_
        refine rfa (off := 3) (s := 4) (r := true) rfl rfl rfl (Nat.succ_ne_zero _) rfl rfl rfl ?_
        refine rlr (vs := [.int _ _, .int _ _, .int _ _, .int _ _]) rfl rfl rfl rfl rfl (Nat.le_of_ble_eq_true rfl) rfl rfl rfl rfl ?_
        refine rclP (s51 r.an) rfl rfl rfl rfl rfl rfl ?_ ?_ <;> intro h1_16
        · refine rpk (e := true) rfl rfl rfl rfl rfl rfl ?_
          refine raB rfl rfl rfl rfl rfl ?_
          refine rNil ?_
          refine qSeq ?_
          refine wRet ?_
          first | exact finT rfl ⟨by assumption, by assumption, by assumption, by assumption⟩ | (refine finF rfl fun hw => ?_; obtain ⟨w1, w2, w3, w4⟩ := hw; first | contradiction | omega)
        · refine rpk (e := false) rfl rfl rfl rfl rfl rfl ?_
          refine raB rfl rfl rfl rfl rfl ?_
          refine rNil ?_
          refine qSeq ?_
          refine wRet ?_
          first | exact finT rfl ⟨by assumption, by assumption, by assumption, by assumption⟩ | (refine finF rfl fun hw => ?_; obtain ⟨w1, w2, w3, w4⟩ := hw; first | contradiction | omega)
      · refine rpk (e := false) rfl rfl rfl rfl rfl rfl ?_
        refine rmB rfl rfl rfl rfl rfl ?_
        refine rSkip rfl rfl rfl ?_
        refine rSkip rfl rfl rfl ?_
        refine rSkip rfl rfl rfl ?_
        refine rpk (e := false) rfl rfl rfl rfl rfl rfl ?_
        refine raB rfl rfl rfl rfl rfl ?_
        refine rNil ?_
        refine qSeq ?_
        refine wRet ?_
        first | exact finT rfl ⟨by assumption, by assumption, by assumption, by assumption⟩ | (refine finF rfl fun hw => ?_; obtain ⟨w1, w2, w3, w4⟩ := hw; first | contradiction | omega)
    · refine rpk (e := false) rfl rfl rfl rfl rfl rfl ?_
      refine rmB rfl rfl rfl rfl rfl ?_
      refine rSkip rfl rfl rfl ?_
      refine rSkip rfl rfl rfl ?_
      refine rSkip rfl rfl rfl ?_
      refine rpk (e := false) rfl rfl rfl rfl rfl rfl ?_
      refine rmB rfl rfl rfl rfl rfl ?_
      refine rSkip rfl rfl rfl ?_
      refine rSkip rfl rfl rfl ?_
      refine rSkip rfl rfl rfl ?_
      refine rpk (e := false) rfl rfl rfl rfl rfl rfl ?_
      refine raB rfl rfl rfl rfl rfl ?_
      refine rNil ?_
      refine qSeq ?_
      refine wRet ?_
      first | exact finT rfl ⟨by assumption, by assumption, by assumption, by assumption⟩ | (refine finF rfl fun hw => ?_; obtain ⟨w1, w2, w3, w4⟩ := hw; first | contradiction | omega)
  · refine rmB rfl rfl rfl rfl rfl ?_
    refine rSkip rfl rfl rfl ?_
    refine rSkip rfl rfl rfl ?_
    refine rSkip rfl rfl rfl ?_
    refine rpk (e := false) rfl rfl rfl rfl rfl rfl ?_
    refine rmB rfl rfl rfl rfl rfl ?_
    refine rSkip rfl rfl rfl ?_
    refine rSkip rfl rfl rfl ?_
    refine rSkip rfl rfl rfl ?_
    refine rpk (e := false) rfl rfl rfl rfl rfl rfl ?_
    refine rmB rfl rfl rfl rfl rfl ?_
    refine rSkip rfl rfl rfl ?_
    refine rSkip rfl rfl rfl ?_
    refine rSkip rfl rfl rfl ?_
    refine rpk (e := false) rfl rfl rfl rfl rfl rfl ?_
    refine raB rfl rfl rfl rfl rfl ?_
    refine rNil ?_
    refine qSeq ?_
    refine wRet ?_
    first | exact finT rfl ⟨by assumption, by assumption, by assumption, by assumption⟩ | (refine finF rfl fun hw => ?_; obtain ⟨w1, w2, w3, w4⟩ := hw; first | contradiction | omega)
theorem snapB {h : Heap} {ids : List Nat} {r : Bool} {id m : Nat} {B : List Int} (hid : id ∈ ids) (hb : h id = some ⟨B.map bV, 1, 5⟩) (hm : m = B.length) : Snap h ids r (.view id 0 m) (.sl true (B.map bT)) :=
  snapView (B.map bT) hid hb (rowsBf true B).symm (by rw [List.length_map]; exact hm)
theorem topL_length (x : Int) (m : Nat) : ∀ j, (topL x m j).length = j
  | 0 => rfl
  | j + 1 => by rw [show topL x m (j + 1) = topL x m j ++ [bt8 x ((m : Int) - 1 - (j : Int))] from rfl, List.length_append, topL_length x m j]; rfl
theorem s105 (x : Int) (m : Nat) (hm : m ≤ 8) : Pure En 105 [.one (.int .i64 x), .one (.int .i64 m)] [.one (.sl true ((numL x m).map bT))] := by
  have hl := topL_length x m
  refine Pure.of_wp Tryd.func105 rfl (Nat.le_of_ble_eq_true rfl) ?_
  refine wSeq ?_
  refine wRegion ?_
  refine raN rfl rfl rfl rfl rfl ?_
  refine rNil ?_
  refine qSeq ?_
  refine wSeq ?_
  refine wRegion ?_
  refine rbs (es := []) rfl rfl rfl rfl (Nat.succ_ne_zero _) (Nat.le_of_ble_eq_true rfl) rfl rfl rfl rfl rfl ?_
  refine raV rfl rfl rfl rfl rfl ?_
  refine rNil ?_
  refine qSeq ?_
  refine wSeq ?_
  refine wSeq ?_
  refine wRegion ?_
  refine rmI rfl rfl rfl rfl rfl ?_
  refine rsubF rfl rfl rfl ?_ ?_ rfl rfl rfl ?_
  · (first | omega | assumption | decide | exact wrap_nn _ | (focus (simp; done)) | (focus (simp; omega)))
  · (first | omega | assumption | decide | exact wrap_nn _ | (focus (simp; done)) | (focus (simp; omega)))
  refine raI rfl rfl rfl rfl rfl ?_
  refine rNil ?_
  refine qSeq ?_
  refine wBlock ?_
  refine wLoop ?_
  refine loopGo (fun (a : Int × Nat × Nat × Nat) => [.int .i64 x, .unk, .unk, .unk, .unk, .view a.2.2.1 0 a.2.1, .int .i64 a.1]) (fun (a : Int × Nat × Nat × Nat) => hp [(a.2.2.1, ⟨(topL x m ((m : Int) - 1 - a.1).toNat).map bV, 1, 5⟩)]) (fun (a : Int × Nat × Nat × Nat) => a.2.2.2) (fun (a : Int × Nat × Nat × Nat) => (-1 ≤ a.1 ∧ a.1 ≤ (m : Int) - 1) ∧ a.2.2.1 < a.2.2.2 ∧ a.2.1 = ((m : Int) - 1 - a.1).toNat) (fun (a : Int × Nat × Nat × Nat) => (a.1 + 1).toNat) ((m : Int) - 1, 0, 0, 1) ?_ ?_ ?_ ?_ ?_
  · exact ⟨by dsimp only; omega, by dsimp only; omega, by dsimp only; omega⟩
  · (repeat first | exact LE.nil _ | refine LE.unk _ _ ?_ | refine LE.eq _ _ _ rfl ?_)
  · dsimp only
    (repeat first | exact lessH0 | (refine lessHc ?_ ?_; (first | (first | ((simp (disch := omega) only [↓app0, ↓appC, ↓updS, ↓updN, ↓hpS, ↓hpN]) <;> first | rfl | assumption) | assumption | rfl) | (first | (focus (((simp (disch := omega) only [app, upd, hp, if_pos, if_neg])); exact congrArg (fun z => some (Blk.mk (List.map bV z) 1 5)) (show [] = topL x m _ by rw [show ((m : Int) - 1 - ((m : Int) - 1)).toNat = 0 by omega]; rfl)))))))
  · exact Nat.le_refl _
  intro ⟨i, ln, id, n1⟩ hI ih
  dsimp only at hI ⊢
  refine lStep ?_
  refine wSeq ?_
  refine wSeq ?_
  refine wRegion ?_
  refine rmI rfl rfl rfl rfl rfl ?_
  refine rge rfl rfl rfl rfl rfl rfl ?_ ?_ <;> intro h3_1
  · refine rNil ?_
    refine qSeq ?_
    refine wT rfl ?_
    refine wSkip ?_
    refine qSeq ?_
    refine wSeq ?_
    refine wBlock ?_
    refine wRegion ?_
    refine rmV rfl rfl rfl rfl rfl ?_
    refine rmI rfl rfl rfl rfl rfl ?_
    refine rmI rfl rfl rfl rfl rfl ?_
    refine rmulF rfl rfl rfl ?_ ?_ rfl rfl rfl ?_
    · (first | omega | assumption | decide | exact wrap_nn _ | (focus (simp; done)) | (focus (simp; omega)))
    · (first | omega | assumption | decide | exact wrap_nn _ | (focus (simp; done)) | (focus (simp; omega)))
    refine rcv rfl rfl rfl rfl rfl rfl rfl ?_
    refine rshr rfl rfl rfl ?_ rfl rfl rfl ?_
    · (first | omega | assumption | decide | exact wrap_nn _ | (focus (simp; done)) | (focus (simp; omega)))
    refine rcv rfl rfl rfl rfl rfl rfl rfl ?_
    refine rbs (es := [[.int _ _]]) rfl rfl rfl rfl (Nat.succ_ne_zero _) (Nat.le_of_ble_eq_true rfl) rfl rfl rfl rfl rfl ?_
    (apply rap (s' := 1) (es := [[.int _ _]]) rfl rfl; (first | ((simp (disch := omega) only [↓app0, ↓appC, ↓updS, ↓updN, ↓hpS, ↓hpN]) <;> first | rfl | assumption) | assumption | rfl); rfl; rfl; (first | rfl | omega | (rw [List.length_map, hl]; omega) | (rw [List.length_map]; omega)); rfl; rfl; exact (Nat.succ_ne_zero _); (first | rfl | (apply srcView rfl; (first | ((simp (disch := omega) only [↓app0, ↓appC, ↓updS, ↓updN, ↓hpS, ↓hpN]) <;> first | rfl | assumption) | assumption | rfl); (first | exact Nat.le_refl _ | omega); rfl)); (first | rfl | assumption | (focus (simp; done)) | (intro _ _; simp_all)); (first | omega | (focus (simp only [List.length_cons, List.length_nil]; omega)) | exact Nat.le_of_ble_eq_true rfl | ((show (_ + 1) * _ ≤ _); omega) | ((show _ + 1 ≤ _); omega)); (first | omega | (focus (simp only [List.length_cons, List.length_nil]; omega)) | exact Nat.le_of_ble_eq_true rfl | ((show (_ + 1) * _ ≤ _); omega) | ((show _ + 1 ≤ _); omega)); rfl; rfl; rfl)
    refine raV rfl rfl rfl rfl rfl ?_
    refine rNil ?_
    refine qBlock ?_
    refine qSeq ?_
    refine wRegion ?_
    refine rmI rfl rfl rfl rfl rfl ?_
    refine rsubF rfl rfl rfl ?_ ?_ rfl rfl rfl ?_
    · (first | omega | assumption | decide | exact wrap_nn _ | (focus (simp; done)) | (focus (simp; omega)))
    · (first | omega | assumption | decide | exact wrap_nn _ | (focus (simp; done)) | (focus (simp; omega)))
    refine raI rfl rfl rfl rfl rfl ?_
    refine rNil ?_
    refine qLoop ?_
    have hk : ((m : Int) - 1 - (i - 1)).toNat = ((m : Int) - 1 - i).toNat + 1 := by omega
    have hi7 : (m : Int) - 1 - ((((m : Int) - 1 - i).toNat : Nat) : Int) = i := by omega
    have e2 : (topL x m ((m : Int) - 1 - i).toNat).map bV ++ [[.int .u8 (bt8 x i)]] = (topL x m ((m : Int) - 1 - (i - 1)).toNat).map bV := by
      rw [hk, show topL x m (((m : Int) - 1 - i).toNat + 1) = topL x m ((m : Int) - 1 - i).toNat ++ [bt8 x ((m : Int) - 1 - ((((m : Int) - 1 - i).toNat : Nat) : Int))] from rfl, hi7, List.map_append]; rfl
    exact wlH (ih (i - 1, ln + 1, n1 + 1, n1 + 2) ⟨by dsimp only; omega, by dsimp only; omega, by dsimp only; omega⟩ (by dsimp only; omega)) (by (repeat first | exact LE.nil _ | refine LE.unk _ _ ?_ | refine LE.eq _ _ _ rfl ?_)) (by dsimp only; (repeat first | exact lessH0 | (refine lessHc ?_ ?_; (first | (first | ((simp (disch := omega) only [↓app0, ↓appC, ↓updS, ↓updN, ↓hpS, ↓hpN]) <;> first | rfl | assumption) | assumption | rfl) | (first | (focus (((simp (disch := omega) only [app, upd, hp, if_pos, if_neg])); exact congrArg (fun z => some (Blk.mk z 1 5)) e2))))))) (Nat.le_refl _)
  · refine rNil ?_
    refine qSeq ?_
    refine wF rfl ?_
    refine wExit ?_
    refine qSeqX ?_
    refine qLoopX ?_
    refine qBlockX ?_
    refine qSeq ?_
    refine wSeq ?_
    refine wRegion ?_
    refine rmV rfl rfl rfl rfl rfl ?_
    refine raV rfl rfl rfl rfl rfl ?_
    refine rNil ?_
    refine qSeq ?_
    refine wRet ?_
    have e3 : topL x m ((m : Int) - 1 - i).toNat = numL x m := by rw [numL_top m hm, show ((m : Int) - 1 - i).toNat = m by omega]
    rw [e3] at *; refine finS (xs := [.view id 0 ln]) [id] rfl (.cons _ _ _ _ (.one _ _ (snapB (List.mem_singleton.2 rfl) ?_ ?_)) .nil)
    · (first | ((simp (disch := omega) only [↓app0, ↓appC, ↓updS, ↓updN, ↓hpS, ↓hpN]) <;> first | rfl | assumption) | assumption | rfl)
    · rw [numL_length]; omega
end Go.Proofs.YtcafccndgpopkaaDoor
