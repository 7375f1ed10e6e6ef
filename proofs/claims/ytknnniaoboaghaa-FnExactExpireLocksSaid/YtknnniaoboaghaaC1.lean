import Derived.Test.YtknnniaoboaghaaVn
import Derived.Test.YtknnniaoboaghaaProg
namespace Go.Proofs.Ytknnniaoboaghaa
open Go.V
set_option linter.unusedVariables false
set_option maxRecDepth 20000
noncomputable def En : Env := ⟨Try.prog, fun _ => none⟩

theorem p84 (a b c : Int) : Pure En 57 [.one (.int .i64 a), .one (.int .i64 b), .one (.int .i64 c)] [.one (.bool (decide (b ≤ a ∧ a ≤ c)))] := by
  refine Pure.of_wp Try.func57 rfl (Nat.le_of_ble_eq_true rfl) ?_
  refine wSeq ?_
  refine wRegion ?_
  refine raB rfl rfl rfl rfl rfl ?_
  refine rNil ?_
  refine qSeq ?_
  refine wSeq ?_
  refine wRegion ?_
  refine rmI rfl rfl rfl rfl rfl ?_
  refine rmI rfl rfl rfl rfl rfl ?_
  refine rge rfl rfl rfl rfl rfl rfl ?_ ?_ <;> intro h1_2
  · refine rmB rfl rfl rfl rfl rfl ?_
    refine rmI rfl rfl rfl rfl rfl ?_
    refine rmI rfl rfl rfl rfl rfl ?_
    refine rle rfl rfl rfl rfl rfl rfl ?_ ?_ <;> intro h1_6
    · refine rpk (e := true) rfl rfl rfl rfl rfl rfl ?_
      refine raB rfl rfl rfl rfl rfl ?_
      refine rNil ?_
      refine qSeq ?_
      refine wRet ?_
      first | (refine finT rfl ?_; omega) | (refine finF rfl ?_; omega)
    · refine rpk (e := false) rfl rfl rfl rfl rfl rfl ?_
      refine raB rfl rfl rfl rfl rfl ?_
      refine rNil ?_
      refine qSeq ?_
      refine wRet ?_
      first | (refine finT rfl ?_; omega) | (refine finF rfl ?_; omega)
  · refine rmB rfl rfl rfl rfl rfl ?_
    refine rSkip rfl rfl rfl ?_
    refine rSkip rfl rfl rfl ?_
    refine rSkip rfl rfl rfl ?_
    refine rpk (e := false) rfl rfl rfl rfl rfl rfl ?_
    refine raB rfl rfl rfl rfl rfl ?_
    refine rNil ?_
    refine qSeq ?_
    refine wRet ?_
    first | (refine finT rfl ?_; omega) | (refine finF rfl ?_; omega)
theorem p45 (a b c : Int) : Pure En 77 [.one (.int .i64 a), .one (.int .i64 b), .one (.int .i64 c)] [.one (.bool (decide (b ≤ a ∧ a ≤ c)))] := by
  refine Pure.of_wp Try.func77 rfl (Nat.le_of_ble_eq_true rfl) ?_
  refine wSeq ?_
  refine wRegion ?_
  refine raB rfl rfl rfl rfl rfl ?_
  refine rNil ?_
  refine qSeq ?_
  refine wSeq ?_
  refine wRegion ?_
  refine rmI rfl rfl rfl rfl rfl ?_
  refine rmI rfl rfl rfl rfl rfl ?_
  refine rge rfl rfl rfl rfl rfl rfl ?_ ?_ <;> intro h1_2
  · refine rmB rfl rfl rfl rfl rfl ?_
    refine rmI rfl rfl rfl rfl rfl ?_
    refine rmI rfl rfl rfl rfl rfl ?_
    refine rle rfl rfl rfl rfl rfl rfl ?_ ?_ <;> intro h1_6
    · refine rpk (e := true) rfl rfl rfl rfl rfl rfl ?_
      refine raB rfl rfl rfl rfl rfl ?_
      refine rNil ?_
      refine qSeq ?_
      refine wRet ?_
      first | (refine finT rfl ?_; omega) | (refine finF rfl ?_; omega)
    · refine rpk (e := false) rfl rfl rfl rfl rfl rfl ?_
      refine raB rfl rfl rfl rfl rfl ?_
      refine rNil ?_
      refine qSeq ?_
      refine wRet ?_
      first | (refine finT rfl ?_; omega) | (refine finF rfl ?_; omega)
  · refine rmB rfl rfl rfl rfl rfl ?_
    refine rSkip rfl rfl rfl ?_
    refine rSkip rfl rfl rfl ?_
    refine rSkip rfl rfl rfl ?_
    refine rpk (e := false) rfl rfl rfl rfl rfl rfl ?_
    refine raB rfl rfl rfl rfl rfl ?_
    refine rNil ?_
    refine qSeq ?_
    refine wRet ?_
    first | (refine finT rfl ?_; omega) | (refine finF rfl ?_; omega)

def letter (a : Int) : Prop := (97 ≤ a ∧ a ≤ 122) ∨ (65 ≤ a ∧ a ≤ 90) ∨ a = 95
instance (a : Int) : Decidable (letter a) := by unfold letter; infer_instance
def digit (a : Int) : Prop := 48 ≤ a ∧ a ≤ 57
instance (a : Int) : Decidable (digit a) := by unfold digit; infer_instance

theorem p93 (a : Int) : Pure En 148 [.one (.int .u8 a)] [.one (.bool (decide (letter a)))] := by
  refine Pure.of_wp Try.func148 rfl (Nat.le_of_ble_eq_true rfl) ?_
  refine wSeq ?_
  refine wRegion ?_
  refine raB rfl rfl rfl rfl rfl ?_
  refine rNil ?_
  refine qSeq ?_
  refine wSeq ?_
  refine wRegion ?_
  refine rmI rfl rfl rfl rfl rfl ?_
  refine rge rfl rfl rfl rfl rfl rfl ?_ ?_ <;> intro h1_1
  · refine rmB rfl rfl rfl rfl rfl ?_
    refine rmI rfl rfl rfl rfl rfl ?_
    refine rle rfl rfl rfl rfl rfl rfl ?_ ?_ <;> intro h1_4
    · refine rpk (e := true) rfl rfl rfl rfl rfl rfl ?_
      refine rmB rfl rfl rfl rfl rfl ?_
      refine rSkip rfl rfl rfl ?_
      refine rSkip rfl rfl rfl ?_
      refine rSkip rfl rfl rfl ?_
      refine rSkip rfl rfl rfl ?_
      refine rSkip rfl rfl rfl ?_
      refine rSkip rfl rfl rfl ?_
      refine rpk (e := true) rfl rfl rfl rfl rfl rfl ?_
      refine rmB rfl rfl rfl rfl rfl ?_
      refine rSkip rfl rfl rfl ?_
      refine rSkip rfl rfl rfl ?_
      refine rpk (e := true) rfl rfl rfl rfl rfl rfl ?_
      refine raB rfl rfl rfl rfl rfl ?_
      refine rNil ?_
      refine qSeq ?_
      refine wRet ?_
      first | (refine finT rfl ?_; unfold letter; omega) | (refine finF rfl ?_; unfold letter; omega)
    · refine rpk (e := false) rfl rfl rfl rfl rfl rfl ?_
      refine rmB rfl rfl rfl rfl rfl ?_
      refine rmI rfl rfl rfl rfl rfl ?_
      refine rge rfl rfl rfl rfl rfl rfl ?_ ?_ <;> intro h1_8
      · refine rmB rfl rfl rfl rfl rfl ?_
        refine rmI rfl rfl rfl rfl rfl ?_
        refine rle rfl rfl rfl rfl rfl rfl ?_ ?_ <;> intro h1_11
        · refine rpk (e := true) rfl rfl rfl rfl rfl rfl ?_
          refine rpk (e := true) rfl rfl rfl rfl rfl rfl ?_
          refine rmB rfl rfl rfl rfl rfl ?_
          refine rSkip rfl rfl rfl ?_
          refine rSkip rfl rfl rfl ?_
          refine rpk (e := true) rfl rfl rfl rfl rfl rfl ?_
          refine raB rfl rfl rfl rfl rfl ?_
          refine rNil ?_
          refine qSeq ?_
          refine wRet ?_
          first | (refine finT rfl ?_; unfold letter; omega) | (refine finF rfl ?_; unfold letter; omega)
        · refine rpk (e := false) rfl rfl rfl rfl rfl rfl ?_
          refine rpk (e := false) rfl rfl rfl rfl rfl rfl ?_
          refine rmB rfl rfl rfl rfl rfl ?_
          refine rmI rfl rfl rfl rfl rfl ?_
          refine req rfl rfl rfl rfl rfl rfl ?_ ?_ <;> intro h1_16
          · refine rpk (e := true) rfl rfl rfl rfl rfl rfl ?_
            refine raB rfl rfl rfl rfl rfl ?_
            refine rNil ?_
            refine qSeq ?_
            refine wRet ?_
            first | (refine finT rfl ?_; unfold letter; omega) | (refine finF rfl ?_; unfold letter; omega)
          · refine rpk (e := false) rfl rfl rfl rfl rfl rfl ?_
            refine raB rfl rfl rfl rfl rfl ?_
            refine rNil ?_
            refine qSeq ?_
            refine wRet ?_
            first | (refine finT rfl ?_; unfold letter; omega) | (refine finF rfl ?_; unfold letter; omega)
      · refine rmB rfl rfl rfl rfl rfl ?_
        refine rSkip rfl rfl rfl ?_
        refine rSkip rfl rfl rfl ?_
        refine rpk (e := false) rfl rfl rfl rfl rfl rfl ?_
        refine rpk (e := false) rfl rfl rfl rfl rfl rfl ?_
        refine rmB rfl rfl rfl rfl rfl ?_
        refine rmI rfl rfl rfl rfl rfl ?_
        refine req rfl rfl rfl rfl rfl rfl ?_ ?_ <;> intro h1_16
        · refine rpk (e := true) rfl rfl rfl rfl rfl rfl ?_
          refine raB rfl rfl rfl rfl rfl ?_
          refine rNil ?_
          refine qSeq ?_
          refine wRet ?_
          first | (refine finT rfl ?_; unfold letter; omega) | (refine finF rfl ?_; unfold letter; omega)
        · refine rpk (e := false) rfl rfl rfl rfl rfl rfl ?_
          refine raB rfl rfl rfl rfl rfl ?_
          refine rNil ?_
          refine qSeq ?_
          refine wRet ?_
          first | (refine finT rfl ?_; unfold letter; omega) | (refine finF rfl ?_; unfold letter; omega)
  · refine rmB rfl rfl rfl rfl rfl ?_
    refine rSkip rfl rfl rfl ?_
    refine rSkip rfl rfl rfl ?_
    refine rpk (e := false) rfl rfl rfl rfl rfl rfl ?_
    refine rmB rfl rfl rfl rfl rfl ?_
    refine rmI rfl rfl rfl rfl rfl ?_
    refine rge rfl rfl rfl rfl rfl rfl ?_ ?_ <;> intro h1_8
    · refine rmB rfl rfl rfl rfl rfl ?_
      refine rmI rfl rfl rfl rfl rfl ?_
      refine rle rfl rfl rfl rfl rfl rfl ?_ ?_ <;> intro h1_11
      · refine rpk (e := true) rfl rfl rfl rfl rfl rfl ?_
        refine rpk (e := true) rfl rfl rfl rfl rfl rfl ?_
        refine rmB rfl rfl rfl rfl rfl ?_
        refine rSkip rfl rfl rfl ?_
        refine rSkip rfl rfl rfl ?_
        refine rpk (e := true) rfl rfl rfl rfl rfl rfl ?_
        refine raB rfl rfl rfl rfl rfl ?_
        refine rNil ?_
        refine qSeq ?_
        refine wRet ?_
        first | (refine finT rfl ?_; unfold letter; omega) | (refine finF rfl ?_; unfold letter; omega)
      · refine rpk (e := false) rfl rfl rfl rfl rfl rfl ?_
        refine rpk (e := false) rfl rfl rfl rfl rfl rfl ?_
        refine rmB rfl rfl rfl rfl rfl ?_
        refine rmI rfl rfl rfl rfl rfl ?_
        refine req rfl rfl rfl rfl rfl rfl ?_ ?_ <;> intro h1_16
        · refine rpk (e := true) rfl rfl rfl rfl rfl rfl ?_
          refine raB rfl rfl rfl rfl rfl ?_
          refine rNil ?_
          refine qSeq ?_
          refine wRet ?_
          first | (refine finT rfl ?_; unfold letter; omega) | (refine finF rfl ?_; unfold letter; omega)
        · refine rpk (e := false) rfl rfl rfl rfl rfl rfl ?_
          refine raB rfl rfl rfl rfl rfl ?_
          refine rNil ?_
          refine qSeq ?_
          refine wRet ?_
          first | (refine finT rfl ?_; unfold letter; omega) | (refine finF rfl ?_; unfold letter; omega)
    · refine rmB rfl rfl rfl rfl rfl ?_
      refine rSkip rfl rfl rfl ?_
      refine rSkip rfl rfl rfl ?_
      refine rpk (e := false) rfl rfl rfl rfl rfl rfl ?_
      refine rpk (e := false) rfl rfl rfl rfl rfl rfl ?_
      refine rmB rfl rfl rfl rfl rfl ?_
      refine rmI rfl rfl rfl rfl rfl ?_
      refine req rfl rfl rfl rfl rfl rfl ?_ ?_ <;> intro h1_16
      · refine rpk (e := true) rfl rfl rfl rfl rfl rfl ?_
        refine raB rfl rfl rfl rfl rfl ?_
        refine rNil ?_
        refine qSeq ?_
        refine wRet ?_
        first | (refine finT rfl ?_; unfold letter; omega) | (refine finF rfl ?_; unfold letter; omega)
      · refine rpk (e := false) rfl rfl rfl rfl rfl rfl ?_
        refine raB rfl rfl rfl rfl rfl ?_
        refine rNil ?_
        refine qSeq ?_
        refine wRet ?_
        first | (refine finT rfl ?_; unfold letter; omega) | (refine finF rfl ?_; unfold letter; omega)
theorem p83 (a : Int) : Pure En 145 [.one (.int .u8 a)] [.one (.bool (decide (letter a)))] := by
  refine Pure.of_wp Try.func145 rfl (Nat.le_of_ble_eq_true rfl) ?_
  refine wSeq ?_
  refine wRegion ?_
  refine raB rfl rfl rfl rfl rfl ?_
  refine rNil ?_
  refine qSeq ?_
  refine wSeq ?_
  refine wRegion ?_
  refine rmI rfl rfl rfl rfl rfl ?_
  refine rge rfl rfl rfl rfl rfl rfl ?_ ?_ <;> intro h1_1
  · refine rmB rfl rfl rfl rfl rfl ?_
    refine rmI rfl rfl rfl rfl rfl ?_
    refine rle rfl rfl rfl rfl rfl rfl ?_ ?_ <;> intro h1_4
    · refine rpk (e := true) rfl rfl rfl rfl rfl rfl ?_
      refine rmB rfl rfl rfl rfl rfl ?_
      refine rSkip rfl rfl rfl ?_
      refine rSkip rfl rfl rfl ?_
      refine rSkip rfl rfl rfl ?_
      refine rSkip rfl rfl rfl ?_
      refine rSkip rfl rfl rfl ?_
      refine rSkip rfl rfl rfl ?_
      refine rpk (e := true) rfl rfl rfl rfl rfl rfl ?_
      refine rmB rfl rfl rfl rfl rfl ?_
      refine rSkip rfl rfl rfl ?_
      refine rSkip rfl rfl rfl ?_
      refine rpk (e := true) rfl rfl rfl rfl rfl rfl ?_
      refine raB rfl rfl rfl rfl rfl ?_
      refine rNil ?_
      refine qSeq ?_
      refine wRet ?_
      first | (refine finT rfl ?_; unfold letter; omega) | (refine finF rfl ?_; unfold letter; omega)
    · refine rpk (e := false) rfl rfl rfl rfl rfl rfl ?_
      refine rmB rfl rfl rfl rfl rfl ?_
      refine rmI rfl rfl rfl rfl rfl ?_
      refine rge rfl rfl rfl rfl rfl rfl ?_ ?_ <;> intro h1_8
      · refine rmB rfl rfl rfl rfl rfl ?_
        refine rmI rfl rfl rfl rfl rfl ?_
        refine rle rfl rfl rfl rfl rfl rfl ?_ ?_ <;> intro h1_11
        · refine rpk (e := true) rfl rfl rfl rfl rfl rfl ?_
          refine rpk (e := true) rfl rfl rfl rfl rfl rfl ?_
          refine rmB rfl rfl rfl rfl rfl ?_
          refine rSkip rfl rfl rfl ?_
          refine rSkip rfl rfl rfl ?_
          refine rpk (e := true) rfl rfl rfl rfl rfl rfl ?_
          refine raB rfl rfl rfl rfl rfl ?_
          refine rNil ?_
          refine qSeq ?_
          refine wRet ?_
          first | (refine finT rfl ?_; unfold letter; omega) | (refine finF rfl ?_; unfold letter; omega)
        · refine rpk (e := false) rfl rfl rfl rfl rfl rfl ?_
          refine rpk (e := false) rfl rfl rfl rfl rfl rfl ?_
          refine rmB rfl rfl rfl rfl rfl ?_
          refine rmI rfl rfl rfl rfl rfl ?_
          refine req rfl rfl rfl rfl rfl rfl ?_ ?_ <;> intro h1_16
          · refine rpk (e := true) rfl rfl rfl rfl rfl rfl ?_
            refine raB rfl rfl rfl rfl rfl ?_
            refine rNil ?_
            refine qSeq ?_
            refine wRet ?_
            first | (refine finT rfl ?_; unfold letter; omega) | (refine finF rfl ?_; unfold letter; omega)
          · refine rpk (e := false) rfl rfl rfl rfl rfl rfl ?_
            refine raB rfl rfl rfl rfl rfl ?_
            refine rNil ?_
            refine qSeq ?_
            refine wRet ?_
            first | (refine finT rfl ?_; unfold letter; omega) | (refine finF rfl ?_; unfold letter; omega)
      · refine rmB rfl rfl rfl rfl rfl ?_
        refine rSkip rfl rfl rfl ?_
        refine rSkip rfl rfl rfl ?_
        refine rpk (e := false) rfl rfl rfl rfl rfl rfl ?_
        refine rpk (e := false) rfl rfl rfl rfl rfl rfl ?_
        refine rmB rfl rfl rfl rfl rfl ?_
        refine rmI rfl rfl rfl rfl rfl ?_
        refine req rfl rfl rfl rfl rfl rfl ?_ ?_ <;> intro h1_16
        · refine rpk (e := true) rfl rfl rfl rfl rfl rfl ?_
          refine raB rfl rfl rfl rfl rfl ?_
          refine rNil ?_
          refine qSeq ?_
          refine wRet ?_
          first | (refine finT rfl ?_; unfold letter; omega) | (refine finF rfl ?_; unfold letter; omega)
        · refine rpk (e := false) rfl rfl rfl rfl rfl rfl ?_
          refine raB rfl rfl rfl rfl rfl ?_
          refine rNil ?_
          refine qSeq ?_
          refine wRet ?_
          first | (refine finT rfl ?_; unfold letter; omega) | (refine finF rfl ?_; unfold letter; omega)
  · refine rmB rfl rfl rfl rfl rfl ?_
    refine rSkip rfl rfl rfl ?_
    refine rSkip rfl rfl rfl ?_
    refine rpk (e := false) rfl rfl rfl rfl rfl rfl ?_
    refine rmB rfl rfl rfl rfl rfl ?_
    refine rmI rfl rfl rfl rfl rfl ?_
    refine rge rfl rfl rfl rfl rfl rfl ?_ ?_ <;> intro h1_8
    · refine rmB rfl rfl rfl rfl rfl ?_
      refine rmI rfl rfl rfl rfl rfl ?_
      refine rle rfl rfl rfl rfl rfl rfl ?_ ?_ <;> intro h1_11
      · refine rpk (e := true) rfl rfl rfl rfl rfl rfl ?_
        refine rpk (e := true) rfl rfl rfl rfl rfl rfl ?_
        refine rmB rfl rfl rfl rfl rfl ?_
        refine rSkip rfl rfl rfl ?_
        refine rSkip rfl rfl rfl ?_
        refine rpk (e := true) rfl rfl rfl rfl rfl rfl ?_
        refine raB rfl rfl rfl rfl rfl ?_
        refine rNil ?_
        refine qSeq ?_
        refine wRet ?_
        first | (refine finT rfl ?_; unfold letter; omega) | (refine finF rfl ?_; unfold letter; omega)
      · refine rpk (e := false) rfl rfl rfl rfl rfl rfl ?_
        refine rpk (e := false) rfl rfl rfl rfl rfl rfl ?_
        refine rmB rfl rfl rfl rfl rfl ?_
        refine rmI rfl rfl rfl rfl rfl ?_
        refine req rfl rfl rfl rfl rfl rfl ?_ ?_ <;> intro h1_16
        · refine rpk (e := true) rfl rfl rfl rfl rfl rfl ?_
          refine raB rfl rfl rfl rfl rfl ?_
          refine rNil ?_
          refine qSeq ?_
          refine wRet ?_
          first | (refine finT rfl ?_; unfold letter; omega) | (refine finF rfl ?_; unfold letter; omega)
        · refine rpk (e := false) rfl rfl rfl rfl rfl rfl ?_
          refine raB rfl rfl rfl rfl rfl ?_
          refine rNil ?_
          refine qSeq ?_
          refine wRet ?_
          first | (refine finT rfl ?_; unfold letter; omega) | (refine finF rfl ?_; unfold letter; omega)
    · refine rmB rfl rfl rfl rfl rfl ?_
      refine rSkip rfl rfl rfl ?_
      refine rSkip rfl rfl rfl ?_
      refine rpk (e := false) rfl rfl rfl rfl rfl rfl ?_
      refine rpk (e := false) rfl rfl rfl rfl rfl rfl ?_
      refine rmB rfl rfl rfl rfl rfl ?_
      refine rmI rfl rfl rfl rfl rfl ?_
      refine req rfl rfl rfl rfl rfl rfl ?_ ?_ <;> intro h1_16
      · refine rpk (e := true) rfl rfl rfl rfl rfl rfl ?_
        refine raB rfl rfl rfl rfl rfl ?_
        refine rNil ?_
        refine qSeq ?_
        refine wRet ?_
        first | (refine finT rfl ?_; unfold letter; omega) | (refine finF rfl ?_; unfold letter; omega)
      · refine rpk (e := false) rfl rfl rfl rfl rfl rfl ?_
        refine raB rfl rfl rfl rfl rfl ?_
        refine rNil ?_
        refine qSeq ?_
        refine wRet ?_
        first | (refine finT rfl ?_; unfold letter; omega) | (refine finF rfl ?_; unfold letter; omega)
theorem p94 (a : Int) : Pure En 149 [.one (.int .u8 a)] [.one (.bool (decide (digit a)))] := by
  refine Pure.of_wp Try.func149 rfl (Nat.le_of_ble_eq_true rfl) ?_
  refine wSeq ?_
  refine wRegion ?_
  refine raB rfl rfl rfl rfl rfl ?_
  refine rNil ?_
  refine qSeq ?_
  refine wSeq ?_
  refine wRegion ?_
  refine rmI rfl rfl rfl rfl rfl ?_
  refine rge rfl rfl rfl rfl rfl rfl ?_ ?_ <;> intro h1_1
  · refine rmB rfl rfl rfl rfl rfl ?_
    refine rmI rfl rfl rfl rfl rfl ?_
    refine rle rfl rfl rfl rfl rfl rfl ?_ ?_ <;> intro h1_4
    · refine rpk (e := true) rfl rfl rfl rfl rfl rfl ?_
      refine raB rfl rfl rfl rfl rfl ?_
      refine rNil ?_
      refine qSeq ?_
      refine wRet ?_
      first | (refine finT rfl ?_; unfold digit; omega) | (refine finF rfl ?_; unfold digit; omega)
    · refine rpk (e := false) rfl rfl rfl rfl rfl rfl ?_
      refine raB rfl rfl rfl rfl rfl ?_
      refine rNil ?_
      refine qSeq ?_
      refine wRet ?_
      first | (refine finT rfl ?_; unfold digit; omega) | (refine finF rfl ?_; unfold digit; omega)
  · refine rmB rfl rfl rfl rfl rfl ?_
    refine rSkip rfl rfl rfl ?_
    refine rSkip rfl rfl rfl ?_
    refine rpk (e := false) rfl rfl rfl rfl rfl rfl ?_
    refine raB rfl rfl rfl rfl rfl ?_
    refine rNil ?_
    refine qSeq ?_
    refine wRet ?_
    first | (refine finT rfl ?_; unfold digit; omega) | (refine finF rfl ?_; unfold digit; omega)

/-- A word: a letter, behind it letters and digits. -/
def word (s : ByteArray) : Prop := 1 ≤ s.size ∧ s.size ≤ 40 ∧ letter (bt s 0) ∧ ∀ j, j < s.size → letter (bt s j) ∨ digit (bt s j)
noncomputable instance (s : ByteArray) : Decidable (word s) := Classical.propDecidable _

theorem p91 (s : ByteArray) : Pure En 142 [.one (.str s)] [.one (.bool (decide (word s)))] := by
  refine Pure.of_wp Try.func142 rfl (Nat.le_of_ble_eq_true rfl) ?_
  refine wSeq ?_
  refine wRegion ?_
  refine raB rfl rfl rfl rfl rfl ?_
  refine rNil ?_
  refine qSeq ?_
  refine wSeq ?_
  refine wSeq ?_
  refine wRegion ?_
  refine rmS rfl rfl rfl rfl rfl ?_
  refine rls rfl rfl rfl rfl rfl rfl ?_
  refine rlt rfl rfl rfl rfl rfl rfl ?_ ?_ <;> intro h1_2
  · refine rmB rfl rfl rfl rfl rfl ?_
    refine rSkip rfl rfl rfl ?_
    refine rSkip rfl rfl rfl ?_
    refine rSkip rfl rfl rfl ?_
    refine rpk (e := true) rfl rfl rfl rfl rfl rfl ?_
    refine rmB rfl rfl rfl rfl rfl ?_
    refine rSkip rfl rfl rfl ?_
    refine rSkip rfl rfl rfl ?_
    refine rSkip rfl rfl rfl ?_
    refine rSkip rfl rfl rfl ?_
    refine rpk (e := true) rfl rfl rfl rfl rfl rfl ?_
    refine rNil ?_
    refine qSeq ?_
    refine wT rfl ?_
    refine wSeq ?_
    refine wRegion ?_
    refine raB rfl rfl rfl rfl rfl ?_
    refine rNil ?_
    refine qSeq ?_
    refine wRet ?_
    refine qSeqR ?_
    first
      | exact finT rfl ⟨by omega, by omega, by assumption, fun j hj => hI.2.2 j (by omega)⟩
      | (refine finF rfl fun hw => ?_; obtain ⟨w1, w2, w3, w4⟩ := hw; first | omega | exact h1_11 w3 | exact (w4 i (by omega)).elim h6_3 h6_9)
  · refine rmB rfl rfl rfl rfl rfl ?_
    refine rmS rfl rfl rfl rfl rfl ?_
    refine rls rfl rfl rfl rfl rfl rfl ?_
    refine rgt rfl rfl rfl rfl rfl rfl ?_ ?_ <;> intro h1_6
    · refine rpk (e := true) rfl rfl rfl rfl rfl rfl ?_
      refine rmB rfl rfl rfl rfl rfl ?_
      refine rSkip rfl rfl rfl ?_
      refine rSkip rfl rfl rfl ?_
      refine rSkip rfl rfl rfl ?_
      refine rSkip rfl rfl rfl ?_
      refine rpk (e := true) rfl rfl rfl rfl rfl rfl ?_
      refine rNil ?_
      refine qSeq ?_
      refine wT rfl ?_
      refine wSeq ?_
      refine wRegion ?_
      refine raB rfl rfl rfl rfl rfl ?_
      refine rNil ?_
      refine qSeq ?_
      refine wRet ?_
      refine qSeqR ?_
      first
        | exact finT rfl ⟨by omega, by omega, by assumption, fun j hj => hI.2.2 j (by omega)⟩
        | (refine finF rfl fun hw => ?_; obtain ⟨w1, w2, w3, w4⟩ := hw; first | omega | exact h1_11 w3 | exact (w4 i (by omega)).elim h6_3 h6_9)
    · refine rpk (e := false) rfl rfl rfl rfl rfl rfl ?_
      refine rmB rfl rfl rfl rfl rfl ?_
      refine rmS rfl rfl rfl rfl rfl ?_
      refine rixsK (i := 0) rfl rfl rfl rfl ?_ ?_ rfl rfl rfl rfl ?_
      · (first | omega | assumption | (focus (simp; omega)))
      · (first | omega | assumption | (focus (simp; omega)))
      refine rclP (p93 _) rfl rfl rfl rfl rfl rfl ?_ ?_ <;> intro h1_11
      · refine rnot (c := true) rfl rfl rfl rfl rfl ?_
        refine rpk (e := false) rfl rfl rfl rfl rfl rfl ?_
        refine rNil ?_
        refine qSeq ?_
        refine wF rfl ?_
        refine wSkip ?_
        refine qSeq ?_
        refine wSeq ?_
        refine wSeq ?_
        refine wRegion ?_
        refine raI rfl rfl rfl rfl rfl ?_
        refine rNil ?_
        refine qSeq ?_
        refine wBlock ?_
        refine wLoop ?_
        refine loopGo0 (fun (i : Nat) => [.str s, .unk, .unk, .int .i64 i]) (fun (i : Nat) => 1 ≤ i ∧ i ≤ s.size ∧ ∀ j, j < i → letter (bt s j) ∨ digit (bt s j)) (fun (i : Nat) => s.size - i) 1 ?_ ?_ ?_
        · exact ⟨by omega, by omega, allS all0 (.inl h1_11)⟩
        · (repeat first | exact LE.nil _ | refine LE.unk _ _ ?_ | refine LE.eq _ _ _ rfl ?_)
        intro i hI ih
        refine lStep ?_
        refine wSeq ?_
        refine wSeq ?_
        refine wRegion ?_
        refine rmI rfl rfl rfl rfl rfl ?_
        refine rmS rfl rfl rfl rfl rfl ?_
        refine rls rfl rfl rfl rfl rfl rfl ?_
        refine rlt rfl rfl rfl rfl rfl rfl ?_ ?_ <;> intro h4_3
        · refine rNil ?_
          refine qSeq ?_
          refine wT rfl ?_
          refine wSkip ?_
          refine qSeq ?_
          refine wSeq ?_
          refine wBlock ?_
          refine wSeq ?_
          refine wRegion ?_
          refine rmS rfl rfl rfl rfl rfl ?_
          refine rmI rfl rfl rfl rfl rfl ?_
          refine rixs rfl rfl rfl rfl ?_ ?_ rfl rfl rfl ?_
          · (first | omega | assumption | (focus (simp; omega)))
          · (first | omega | assumption | (focus (simp; omega)))
          refine rclP (p93 _) rfl rfl rfl rfl rfl rfl ?_ ?_ <;> intro h6_3
          · refine rnot (c := true) rfl rfl rfl rfl rfl ?_
            refine rmB rfl rfl rfl rfl rfl ?_
            refine rSkip rfl rfl rfl ?_
            refine rSkip rfl rfl rfl ?_
            refine rSkip rfl rfl rfl ?_
            refine rSkip rfl rfl rfl ?_
            refine rSkip rfl rfl rfl ?_
            refine rpk (e := false) rfl rfl rfl rfl rfl rfl ?_
            refine rNil ?_
            refine qSeq ?_
            refine wF rfl ?_
            refine wSkip ?_
            refine qBlock ?_
            refine qSeq ?_
            refine wRegion ?_
            refine rmI rfl rfl rfl rfl rfl ?_
            refine raddF rfl rfl rfl ?_ ?_ rfl rfl rfl ?_
            · (first | omega | assumption | (focus (simp; omega)))
            · (first | omega | assumption | (focus (simp; omega)))
            refine raI rfl rfl rfl rfl rfl ?_
            refine rNil ?_
            refine qLoop ?_
            exact wlN (ih (i + 1) ⟨by omega, by omega, allS hI.2.2 (by first | exact .inl h6_3 | exact .inr h6_9)⟩ (by omega)) (by (repeat first | exact LE.nil _ | refine LE.unk _ _ ?_ | refine LE.eq _ _ _ rfl ?_))
          · refine rnot (c := false) rfl rfl rfl rfl rfl ?_
            refine rmB rfl rfl rfl rfl rfl ?_
            refine rmS rfl rfl rfl rfl rfl ?_
            refine rmI rfl rfl rfl rfl rfl ?_
            refine rixs rfl rfl rfl rfl ?_ ?_ rfl rfl rfl ?_
            · (first | omega | assumption | (focus (simp; omega)))
            · (first | omega | assumption | (focus (simp; omega)))
            refine rclP (p94 _) rfl rfl rfl rfl rfl rfl ?_ ?_ <;> intro h6_9
            · refine rnot (c := true) rfl rfl rfl rfl rfl ?_
              refine rpk (e := false) rfl rfl rfl rfl rfl rfl ?_
              refine rNil ?_
              refine qSeq ?_
              refine wF rfl ?_
              refine wSkip ?_
              refine qBlock ?_
              refine qSeq ?_
              refine wRegion ?_
              refine rmI rfl rfl rfl rfl rfl ?_
              refine raddF rfl rfl rfl ?_ ?_ rfl rfl rfl ?_
              · (first | omega | assumption | (focus (simp; omega)))
              · (first | omega | assumption | (focus (simp; omega)))
              refine raI rfl rfl rfl rfl rfl ?_
              refine rNil ?_
              refine qLoop ?_
              exact wlN (ih (i + 1) ⟨by omega, by omega, allS hI.2.2 (by first | exact .inl h6_3 | exact .inr h6_9)⟩ (by omega)) (by (repeat first | exact LE.nil _ | refine LE.unk _ _ ?_ | refine LE.eq _ _ _ rfl ?_))
            · refine rnot (c := false) rfl rfl rfl rfl rfl ?_
              refine rpk (e := true) rfl rfl rfl rfl rfl rfl ?_
              refine rNil ?_
              refine qSeq ?_
              refine wT rfl ?_
              refine wSeq ?_
              refine wRegion ?_
              refine raB rfl rfl rfl rfl rfl ?_
              refine rNil ?_
              refine qSeq ?_
              refine wRet ?_
              refine qBlockR ?_
              refine qSeqR ?_
              refine qLoopR ?_
              refine qBlockR ?_
              refine qSeqR ?_
              first
                | exact finT rfl ⟨by omega, by omega, by assumption, fun j hj => hI.2.2 j (by omega)⟩
                | (refine finF rfl fun hw => ?_; obtain ⟨w1, w2, w3, w4⟩ := hw; first | omega | exact h1_11 w3 | exact (w4 i (by omega)).elim h6_3 h6_9)
        · refine rNil ?_
          refine qSeq ?_
          refine wF rfl ?_
          refine wExit ?_
          refine qSeqX ?_
          refine qLoopX ?_
          refine qBlockX ?_
          refine qSeq ?_
          refine wSeq ?_
          refine wRegion ?_
          refine raB rfl rfl rfl rfl rfl ?_
          refine rNil ?_
          refine qSeq ?_
          refine wRet ?_
          first
            | exact finT rfl ⟨by omega, by omega, by assumption, fun j hj => hI.2.2 j (by omega)⟩
            | (refine finF rfl fun hw => ?_; obtain ⟨w1, w2, w3, w4⟩ := hw; first | omega | exact h1_11 w3 | exact (w4 i (by omega)).elim h6_3 h6_9)
      · refine rnot (c := false) rfl rfl rfl rfl rfl ?_
        refine rpk (e := true) rfl rfl rfl rfl rfl rfl ?_
        refine rNil ?_
        refine qSeq ?_
        refine wT rfl ?_
        refine wSeq ?_
        refine wRegion ?_
        refine raB rfl rfl rfl rfl rfl ?_
        refine rNil ?_
        refine qSeq ?_
        refine wRet ?_
        refine qSeqR ?_
        first
          | exact finT rfl ⟨by omega, by omega, by assumption, fun j hj => hI.2.2 j (by omega)⟩
          | (refine finF rfl fun hw => ?_; obtain ⟨w1, w2, w3, w4⟩ := hw; first | omega | exact h1_11 w3 | exact (w4 i (by omega)).elim h6_3 h6_9)
theorem p89 (s : ByteArray) : Pure En 119 [.one (.str s)] [.one (.bool (decide (word s)))] := by
  refine Pure.of_wp Try.func119 rfl (Nat.le_of_ble_eq_true rfl) ?_
  refine wSeq ?_
  refine wRegion ?_
  refine raB rfl rfl rfl rfl rfl ?_
  refine rNil ?_
  refine qSeq ?_
  refine wSeq ?_
  refine wRegion ?_
  refine rmS rfl rfl rfl rfl rfl ?_
  refine rclP (p91 _) rfl rfl rfl rfl rfl rfl ?_ ?_ <;> intro h1_1
  · refine raB rfl rfl rfl rfl rfl ?_
    refine rNil ?_
    refine qSeq ?_
    refine wRet ?_
    first | exact finT rfl (by assumption) | exact finF rfl (by assumption)
  · refine raB rfl rfl rfl rfl rfl ?_
    refine rNil ?_
    refine qSeq ?_
    refine wRet ?_
    first | exact finT rfl (by assumption) | exact finF rfl (by assumption)
end Go.Proofs.Ytknnniaoboaghaa
