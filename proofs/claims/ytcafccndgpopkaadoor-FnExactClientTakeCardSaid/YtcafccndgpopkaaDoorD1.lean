import Derived.Test.YtcafccndgpopkaaDoorVn
import Derived.Test.YtcafccndgpopkaaDoorProg
namespace Go.Proofs.YtcafccndgpopkaaDoor
open Go.V
set_option linter.unusedVariables false
set_option linter.unusedSimpArgs false
set_option maxRecDepth 20000

def roundW : List Int := [1116352408, 1899447441, 3049323471, 3921009573, 961987163, 1508970993, 2453635748, 2870763221, 3624381080, 310598401, 607225278, 1426881987, 1925078388, 2162078206, 2614888103, 3248222580, 3835390401, 4022224774, 264347078, 604807628, 770255983, 1249150122, 1555081692, 1996064986, 2554220882, 2821834349, 2952996808, 3210313671, 3336571891, 3584528711, 113926993, 338241895, 666307205, 773529912, 1294757372, 1396182291, 1695183700, 1986661051, 2177026350, 2456956037, 2730485921, 2820302411, 3259730800, 3345764771, 3516065817, 3600352804, 4094571909, 275423344, 430227734, 506948616, 659060556, 883997877, 958139571, 1322822218, 1537002063, 1747873779, 1955562222, 2024104815, 2227730452, 2361852424, 2428436474, 2756734187, 3204031479, 3329325298]
def tab : List T := roundW.map (.int .u32)
def Gl : Nat → Option (List T)
  | 2 => some tab
  | _ => none
noncomputable def En : Env := ⟨Tryd.prog, Gl⟩

theorem mapGet {α β : Type} (f : α → β) (d : α) {L : List α} {k : Nat} (h : k < L.length) : (L.map f)[k]? = some (f (L.getD k d)) := by
  simp [h]

theorem p12 (a b c : Int) : Pure En 56 [.one (.int .i64 a), .one (.int .i64 b), .one (.int .i64 c)] [.one (.bool (decide (b ≤ a ∧ a ≤ c)))] := by
  refine Pure.of_wp Tryd.func56 rfl (Nat.le_of_ble_eq_true rfl) ?_
  refine wSeq ?_
  refine wRegion ?_
  refine raB rfl rfl rfl rfl rfl ?_
  refine rNil ?_
  refine qSeq ?_
  refine wSeq ?_
  refine wRegion ?_
  refine rmI rfl rfl rfl rfl rfl ?_
  refine rmI rfl rfl rfl rfl rfl ?_
  refine rge rfl rfl rfl rfl rfl rfl ?_ ?_ <;> intro h1_2
  · refine rmB rfl rfl rfl rfl rfl ?_
    refine rmI rfl rfl rfl rfl rfl ?_
    refine rmI rfl rfl rfl rfl rfl ?_
    refine rle rfl rfl rfl rfl rfl rfl ?_ ?_ <;> intro h1_6
    · refine rpk (e := true) rfl rfl rfl rfl rfl rfl ?_
      refine raB rfl rfl rfl rfl rfl ?_
      refine rNil ?_
      refine qSeq ?_
      refine wRet ?_
      first | (refine finT rfl ?_; omega) | (refine finF rfl ?_; omega)
    · refine rpk (e := false) rfl rfl rfl rfl rfl rfl ?_
      refine raB rfl rfl rfl rfl rfl ?_
      refine rNil ?_
      refine qSeq ?_
      refine wRet ?_
      first | (refine finT rfl ?_; omega) | (refine finF rfl ?_; omega)
  · refine rmB rfl rfl rfl rfl rfl ?_
    refine rSkip rfl rfl rfl ?_
    refine rSkip rfl rfl rfl ?_
    refine rSkip rfl rfl rfl ?_
    refine rpk (e := false) rfl rfl rfl rfl rfl rfl ?_
    refine raB rfl rfl rfl rfl rfl ?_
    refine rNil ?_
    refine qSeq ?_
    refine wRet ?_
    first | (refine finT rfl ?_; omega) | (refine finF rfl ?_; omega)

def letter (a : Int) : Prop := (97 ≤ a ∧ a ≤ 122) ∨ (65 ≤ a ∧ a ≤ 90) ∨ a = 95
instance (a : Int) : Decidable (letter a) := by unfold letter; infer_instance
def digit (a : Int) : Prop := 48 ≤ a ∧ a ≤ 57
instance (a : Int) : Decidable (digit a) := by unfold digit; infer_instance

theorem p49 (a : Int) : Pure En 107 [.one (.int .u8 a)] [.one (.bool (decide (letter a)))] := by
  refine Pure.of_wp Tryd.func107 rfl (Nat.le_of_ble_eq_true rfl) ?_
  refine wSeq ?_
  refine wRegion ?_
  refine raB rfl rfl rfl rfl rfl ?_
  refine rNil ?_
  refine qSeq ?_
  refine wSeq ?_
  refine wRegion ?_
  refine rmI rfl rfl rfl rfl rfl ?_
  refine rge rfl rfl rfl rfl rfl rfl ?_ ?_ <;> intro h1_1
  · refine rmB rfl rfl rfl rfl rfl ?_
    refine rmI rfl rfl rfl rfl rfl ?_
    refine rle rfl rfl rfl rfl rfl rfl ?_ ?_ <;> intro h1_4
    · refine rpk (e := true) rfl rfl rfl rfl rfl rfl ?_
      refine rmB rfl rfl rfl rfl rfl ?_
      refine rSkip rfl rfl rfl ?_
      refine rSkip rfl rfl rfl ?_
      refine rSkip rfl rfl rfl ?_
      refine rSkip rfl rfl rfl ?_
      refine rSkip rfl rfl rfl ?_
      refine rSkip rfl rfl rfl ?_
      refine rpk (e := true) rfl rfl rfl rfl rfl rfl ?_
      refine rmB rfl rfl rfl rfl rfl ?_
      refine rSkip rfl rfl rfl ?_
      refine rSkip rfl rfl rfl ?_
      refine rpk (e := true) rfl rfl rfl rfl rfl rfl ?_
      refine raB rfl rfl rfl rfl rfl ?_
      refine rNil ?_
      refine qSeq ?_
      refine wRet ?_
      first | (refine finT rfl ?_; unfold letter; omega) | (refine finF rfl ?_; unfold letter; omega)
    · refine rpk (e := false) rfl rfl rfl rfl rfl rfl ?_
      refine rmB rfl rfl rfl rfl rfl ?_
      refine rmI rfl rfl rfl rfl rfl ?_
      refine rge rfl rfl rfl rfl rfl rfl ?_ ?_ <;> intro h1_8
      · refine rmB rfl rfl rfl rfl rfl ?_
        refine rmI rfl rfl rfl rfl rfl ?_
        refine rle rfl rfl rfl rfl rfl rfl ?_ ?_ <;> intro h1_11
        · refine rpk (e := true) rfl rfl rfl rfl rfl rfl ?_
          refine rpk (e := true) rfl rfl rfl rfl rfl rfl ?_
          refine rmB rfl rfl rfl rfl rfl ?_
          refine rSkip rfl rfl rfl ?_
          refine rSkip rfl rfl rfl ?_
          refine rpk (e := true) rfl rfl rfl rfl rfl rfl ?_
          refine raB rfl rfl rfl rfl rfl ?_
          refine rNil ?_
          refine qSeq ?_
          refine wRet ?_
          first | (refine finT rfl ?_; unfold letter; omega) | (refine finF rfl ?_; unfold letter; omega)
        · refine rpk (e := false) rfl rfl rfl rfl rfl rfl ?_
          refine rpk (e := false) rfl rfl rfl rfl rfl rfl ?_
          refine rmB rfl rfl rfl rfl rfl ?_
          refine rmI rfl rfl rfl rfl rfl ?_
          refine req rfl rfl rfl rfl rfl rfl ?_ ?_ <;> intro h1_16
          · refine rpk (e := true) rfl rfl rfl rfl rfl rfl ?_
            refine raB rfl rfl rfl rfl rfl ?_
            refine rNil ?_
            refine qSeq ?_
            refine wRet ?_
            first | (refine finT rfl ?_; unfold letter; omega) | (refine finF rfl ?_; unfold letter; omega)
          · refine rpk (e := false) rfl rfl rfl rfl rfl rfl ?_
            refine raB rfl rfl rfl rfl rfl ?_
            refine rNil ?_
            refine qSeq ?_
            refine wRet ?_
            first | (refine finT rfl ?_; unfold letter; omega) | (refine finF rfl ?_; unfold letter; omega)
      · refine rmB rfl rfl rfl rfl rfl ?_
        refine rSkip rfl rfl rfl ?_
        refine rSkip rfl rfl rfl ?_
        refine rpk (e := false) rfl rfl rfl rfl rfl rfl ?_
        refine rpk (e := false) rfl rfl rfl rfl rfl rfl ?_
        refine rmB rfl rfl rfl rfl rfl ?_
        refine rmI rfl rfl rfl rfl rfl ?_
        refine req rfl rfl rfl rfl rfl rfl ?_ ?_ <;> intro h1_16
        · refine rpk (e := true) rfl rfl rfl rfl rfl rfl ?_
          refine raB rfl rfl rfl rfl rfl ?_
          refine rNil ?_
          refine qSeq ?_
          refine wRet ?_
          first | (refine finT rfl ?_; unfold letter; omega) | (refine finF rfl ?_; unfold letter; omega)
        · refine rpk (e := false) rfl rfl rfl rfl rfl rfl ?_
          refine raB rfl rfl rfl rfl rfl ?_
          refine rNil ?_
          refine qSeq ?_
          refine wRet ?_
          first | (refine finT rfl ?_; unfold letter; omega) | (refine finF rfl ?_; unfold letter; omega)
  · refine rmB rfl rfl rfl rfl rfl ?_
    refine rSkip rfl rfl rfl ?_
    refine rSkip rfl rfl rfl ?_
    refine rpk (e := false) rfl rfl rfl rfl rfl rfl ?_
    refine rmB rfl rfl rfl rfl rfl ?_
    refine rmI rfl rfl rfl rfl rfl ?_
    refine rge rfl rfl rfl rfl rfl rfl ?_ ?_ <;> intro h1_8
    · refine rmB rfl rfl rfl rfl rfl ?_
      refine rmI rfl rfl rfl rfl rfl ?_
      refine rle rfl rfl rfl rfl rfl rfl ?_ ?_ <;> intro h1_11
      · refine rpk (e := true) rfl rfl rfl rfl rfl rfl ?_
        refine rpk (e := true) rfl rfl rfl rfl rfl rfl ?_
        refine rmB rfl rfl rfl rfl rfl ?_
        refine rSkip rfl rfl rfl ?_
        refine rSkip rfl rfl rfl ?_
        refine rpk (e := true) rfl rfl rfl rfl rfl rfl ?_
        refine raB rfl rfl rfl rfl rfl ?_
        refine rNil ?_
        refine qSeq ?_
        refine wRet ?_
        first | (refine finT rfl ?_; unfold letter; omega) | (refine finF rfl ?_; unfold letter; omega)
      · refine rpk (e := false) rfl rfl rfl rfl rfl rfl ?_
        refine rpk (e := false) rfl rfl rfl rfl rfl rfl ?_
        refine rmB rfl rfl rfl rfl rfl ?_
        refine rmI rfl rfl rfl rfl rfl ?_
        refine req rfl rfl rfl rfl rfl rfl ?_ ?_ <;> intro h1_16
        · refine rpk (e := true) rfl rfl rfl rfl rfl rfl ?_
          refine raB rfl rfl rfl rfl rfl ?_
          refine rNil ?_
          refine qSeq ?_
          refine wRet ?_
          first | (refine finT rfl ?_; unfold letter; omega) | (refine finF rfl ?_; unfold letter; omega)
        · refine rpk (e := false) rfl rfl rfl rfl rfl rfl ?_
          refine raB rfl rfl rfl rfl rfl ?_
          refine rNil ?_
          refine qSeq ?_
          refine wRet ?_
          first | (refine finT rfl ?_; unfold letter; omega) | (refine finF rfl ?_; unfold letter; omega)
    · refine rmB rfl rfl rfl rfl rfl ?_
      refine rSkip rfl rfl rfl ?_
      refine rSkip rfl rfl rfl ?_
      refine rpk (e := false) rfl rfl rfl rfl rfl rfl ?_
      refine rpk (e := false) rfl rfl rfl rfl rfl rfl ?_
      refine rmB rfl rfl rfl rfl rfl ?_
      refine rmI rfl rfl rfl rfl rfl ?_
      refine req rfl rfl rfl rfl rfl rfl ?_ ?_ <;> intro h1_16
      · refine rpk (e := true) rfl rfl rfl rfl rfl rfl ?_
        refine raB rfl rfl rfl rfl rfl ?_
        refine rNil ?_
        refine qSeq ?_
        refine wRet ?_
        first | (refine finT rfl ?_; unfold letter; omega) | (refine finF rfl ?_; unfold letter; omega)
      · refine rpk (e := false) rfl rfl rfl rfl rfl rfl ?_
        refine raB rfl rfl rfl rfl rfl ?_
        refine rNil ?_
        refine qSeq ?_
        refine wRet ?_
        first | (refine finT rfl ?_; unfold letter; omega) | (refine finF rfl ?_; unfold letter; omega)

/-- A word: a letter, behind it letters and digits. -/
def word (s : ByteArray) : Prop := 1 ≤ s.size ∧ s.size ≤ 40 ∧ letter (bt s 0) ∧ ∀ j, j < s.size → letter (bt s j) ∨ digit (bt s j)
noncomputable instance (s : ByteArray) : Decidable (word s) := Classical.propDecidable _

theorem p47 (s : ByteArray) : Pure En 97 [.one (.str s)] [.one (.bool (decide (word s)))] := by
  refine Pure.of_wp Tryd.func97 rfl (Nat.le_of_ble_eq_true rfl) ?_
  refine wSeq ?_
  refine wRegion ?_
  refine raB rfl rfl rfl rfl rfl ?_
  refine rNil ?_
  refine qSeq ?_
  refine wSeq ?_
  refine wSeq ?_
  refine wRegion ?_
  refine rmS rfl rfl rfl rfl rfl ?_
  refine rls rfl rfl rfl rfl rfl rfl ?_
  refine rlt rfl rfl rfl rfl rfl rfl ?_ ?_ <;> intro h1_2
  · refine rmB rfl rfl rfl rfl rfl ?_
    refine rSkip rfl rfl rfl ?_
    refine rSkip rfl rfl rfl ?_
    refine rSkip rfl rfl rfl ?_
    refine rpk (e := true) rfl rfl rfl rfl rfl rfl ?_
    refine rmB rfl rfl rfl rfl rfl ?_
    refine rSkip rfl rfl rfl ?_
    refine rSkip rfl rfl rfl ?_
    refine rSkip rfl rfl rfl ?_
    refine rSkip rfl rfl rfl ?_
    refine rpk (e := true) rfl rfl rfl rfl rfl rfl ?_
    refine rNil ?_
    refine qSeq ?_
    refine wT rfl ?_
    refine wSeq ?_
    refine wRegion ?_
    refine raB rfl rfl rfl rfl rfl ?_
    refine rNil ?_
    refine qSeq ?_
    refine wRet ?_
    refine qSeqR ?_
    first
      | exact finT rfl ⟨by omega, by omega, by assumption, fun j hj => hI.2 j (by omega)⟩
      | (refine finF rfl fun hw => ?_; obtain ⟨w1, w2, w3, w4⟩ := hw; first | omega | exact h1_11 w3 | (have := (w4 i (by omega)).resolve_left h6_3; unfold digit at this; unfold bt at *; omega) | (have := (w4 i (by omega)).resolve_left h6_3; unfold digit at this; first | exact absurd this.1 (Int.not_le.mpr h6_9) | exact absurd this.2 (Int.not_le.mpr h6_14)))
  · refine rmB rfl rfl rfl rfl rfl ?_
    refine rmS rfl rfl rfl rfl rfl ?_
    refine rls rfl rfl rfl rfl rfl rfl ?_
    refine rgt rfl rfl rfl rfl rfl rfl ?_ ?_ <;> intro h1_6
    · refine rpk (e := true) rfl rfl rfl rfl rfl rfl ?_
      refine rmB rfl rfl rfl rfl rfl ?_
      refine rSkip rfl rfl rfl ?_
      refine rSkip rfl rfl rfl ?_
      refine rSkip rfl rfl rfl ?_
      refine rSkip rfl rfl rfl ?_
      refine rpk (e := true) rfl rfl rfl rfl rfl rfl ?_
      refine rNil ?_
      refine qSeq ?_
      refine wT rfl ?_
      refine wSeq ?_
      refine wRegion ?_
      refine raB rfl rfl rfl rfl rfl ?_
      refine rNil ?_
      refine qSeq ?_
      refine wRet ?_
      refine qSeqR ?_
      first
        | exact finT rfl ⟨by omega, by omega, by assumption, fun j hj => hI.2 j (by omega)⟩
        | (refine finF rfl fun hw => ?_; obtain ⟨w1, w2, w3, w4⟩ := hw; first | omega | exact h1_11 w3 | (have := (w4 i (by omega)).resolve_left h6_3; unfold digit at this; unfold bt at *; omega) | (have := (w4 i (by omega)).resolve_left h6_3; unfold digit at this; first | exact absurd this.1 (Int.not_le.mpr h6_9) | exact absurd this.2 (Int.not_le.mpr h6_14)))
    · refine rpk (e := false) rfl rfl rfl rfl rfl rfl ?_
      refine rmB rfl rfl rfl rfl rfl ?_
      refine rmS rfl rfl rfl rfl rfl ?_
      refine rixsK (i := 0) rfl rfl rfl rfl ?_ ?_ rfl rfl rfl rfl ?_
      · (first | omega | assumption | (focus (simp; omega)))
      · (first | omega | assumption | (focus (simp; omega)))
      refine rclP (p49 _) rfl rfl rfl rfl rfl rfl ?_ ?_ <;> intro h1_11
      · refine rnot (c := true) rfl rfl rfl rfl rfl ?_
        refine rpk (e := false) rfl rfl rfl rfl rfl rfl ?_
        refine rNil ?_
        refine qSeq ?_
        refine wF rfl ?_
        refine wSkip ?_
        refine qSeq ?_
        refine wSeq ?_
        refine wSeq ?_
        refine wRegion ?_
        refine rmS rfl rfl rfl rfl rfl ?_
        refine rls rfl rfl rfl rfl rfl rfl ?_
        refine rmI rfl rfl rfl rfl rfl ?_
        refine rNil ?_
        refine qSeq ?_
        refine wBlock ?_
        refine wLoop ?_
        refine loopGo0 (fun (i : Nat) => [.str s, .unk, .unk, .unk, .unk, .unk, .unk, .unk, .unk, .unk, .unk, .unk, .unk, .unk, .unk, .unk, .unk, .unk, .unk, .int .i64 s.size, .int .i64 i]) (fun (i : Nat) => i ≤ s.size ∧ ∀ j, j < i → letter (bt s j) ∨ digit (bt s j)) (fun (i : Nat) => s.size - i) 0 ?_ ?_ ?_
        · exact ⟨by omega, all0⟩
        · (repeat first | exact LE.nil _ | refine LE.unk _ _ ?_ | refine LE.eq _ _ _ rfl ?_)
        intro i hI ih
        refine lStep ?_
        refine wSeq ?_
        refine wRegion ?_
        refine rlt rfl rfl rfl rfl rfl rfl ?_ ?_ <;> intro h4_0
        · refine rNil ?_
          refine qSeq ?_
          refine wSeq ?_
          refine wT rfl ?_
          refine wSkip ?_
          refine qSeq ?_
          refine wSeq ?_
          refine wBlock ?_
          refine wSeq ?_
          refine wRegion ?_
          refine rmI rfl rfl rfl rfl rfl ?_
          refine raI rfl rfl rfl rfl rfl ?_
          refine rNil ?_
          refine qSeq ?_
          refine wSeq ?_
          refine wRegion ?_
          refine rmS rfl rfl rfl rfl rfl ?_
          refine rmI rfl rfl rfl rfl rfl ?_
          refine rixs rfl rfl rfl rfl ?_ ?_ rfl rfl rfl ?_
          · (first | omega | assumption | (focus (simp; omega)))
          · (first | omega | assumption | (focus (simp; omega)))
          refine rclP (p49 _) rfl rfl rfl rfl rfl rfl ?_ ?_ <;> intro h6_3
          · refine rnot (c := true) rfl rfl rfl rfl rfl ?_
            refine rmB rfl rfl rfl rfl rfl ?_
            refine rSkip rfl rfl rfl ?_
            refine rSkip rfl rfl rfl ?_
            refine rSkip rfl rfl rfl ?_
            refine rSkip rfl rfl rfl ?_
            refine rSkip rfl rfl rfl ?_
            refine rSkip rfl rfl rfl ?_
            refine rSkip rfl rfl rfl ?_
            refine rSkip rfl rfl rfl ?_
            refine rSkip rfl rfl rfl ?_
            refine rSkip rfl rfl rfl ?_
            refine rpk (e := false) rfl rfl rfl rfl rfl rfl ?_
            refine rNil ?_
            refine qSeq ?_
            refine wF rfl ?_
            refine wSkip ?_
            refine qBlock ?_
            refine qSeq ?_
            refine wRegion ?_
            refine raddF rfl rfl rfl ?_ ?_ rfl rfl rfl ?_
            · (first | omega | assumption | (focus (simp; omega)))
            · (first | omega | assumption | (focus (simp; omega)))
            refine rmI rfl rfl rfl rfl rfl ?_
            refine rNil ?_
            refine qLoop ?_
            exact wlN (ih (i + 1) ⟨by omega, allS hI.2 (by first | exact .inl h6_3 | exact .inr ⟨Int.not_lt.mp h6_9, Int.not_lt.mp h6_14⟩)⟩ (by omega)) (by (repeat first | exact LE.nil _ | refine LE.unk _ _ ?_ | refine LE.eq _ _ _ rfl ?_))
          · refine rnot (c := false) rfl rfl rfl rfl rfl ?_
            refine rmB rfl rfl rfl rfl rfl ?_
            refine rmS rfl rfl rfl rfl rfl ?_
            refine rmI rfl rfl rfl rfl rfl ?_
            refine rixs rfl rfl rfl rfl ?_ ?_ rfl rfl rfl ?_
            · (first | omega | assumption | (focus (simp; omega)))
            · (first | omega | assumption | (focus (simp; omega)))
            refine rlt rfl rfl rfl rfl rfl rfl ?_ ?_ <;> intro h6_9
            · refine rmB rfl rfl rfl rfl rfl ?_
              refine rSkip rfl rfl rfl ?_
              refine rSkip rfl rfl rfl ?_
              refine rSkip rfl rfl rfl ?_
              refine rSkip rfl rfl rfl ?_
              refine rpk (e := true) rfl rfl rfl rfl rfl rfl ?_
              refine rpk (e := true) rfl rfl rfl rfl rfl rfl ?_
              refine rNil ?_
              refine qSeq ?_
              refine wT rfl ?_
              refine wSeq ?_
              refine wRegion ?_
              refine raB rfl rfl rfl rfl rfl ?_
              refine rNil ?_
              refine qSeq ?_
              refine wRet ?_
              refine qBlockR ?_
              refine qSeqR ?_
              refine qLoopR ?_
              refine qBlockR ?_
              refine qSeqR ?_
              first
                | exact finT rfl ⟨by omega, by omega, by assumption, fun j hj => hI.2 j (by omega)⟩
                | (refine finF rfl fun hw => ?_; obtain ⟨w1, w2, w3, w4⟩ := hw; first | omega | exact h1_11 w3 | (have := (w4 i (by omega)).resolve_left h6_3; unfold digit at this; unfold bt at *; omega) | (have := (w4 i (by omega)).resolve_left h6_3; unfold digit at this; first | exact absurd this.1 (Int.not_le.mpr h6_9) | exact absurd this.2 (Int.not_le.mpr h6_14)))
            · refine rmB rfl rfl rfl rfl rfl ?_
              refine rmS rfl rfl rfl rfl rfl ?_
              refine rmI rfl rfl rfl rfl rfl ?_
              refine rixs rfl rfl rfl rfl ?_ ?_ rfl rfl rfl ?_
              · (first | omega | assumption | (focus (simp; omega)))
              · (first | omega | assumption | (focus (simp; omega)))
              refine rgt rfl rfl rfl rfl rfl rfl ?_ ?_ <;> intro h6_14
              · refine rpk (e := true) rfl rfl rfl rfl rfl rfl ?_
                refine rpk (e := true) rfl rfl rfl rfl rfl rfl ?_
                refine rNil ?_
                refine qSeq ?_
                refine wT rfl ?_
                refine wSeq ?_
                refine wRegion ?_
                refine raB rfl rfl rfl rfl rfl ?_
                refine rNil ?_
                refine qSeq ?_
                refine wRet ?_
                refine qBlockR ?_
                refine qSeqR ?_
                refine qLoopR ?_
                refine qBlockR ?_
                refine qSeqR ?_
                first
                  | exact finT rfl ⟨by omega, by omega, by assumption, fun j hj => hI.2 j (by omega)⟩
                  | (refine finF rfl fun hw => ?_; obtain ⟨w1, w2, w3, w4⟩ := hw; first | omega | exact h1_11 w3 | (have := (w4 i (by omega)).resolve_left h6_3; unfold digit at this; unfold bt at *; omega) | (have := (w4 i (by omega)).resolve_left h6_3; unfold digit at this; first | exact absurd this.1 (Int.not_le.mpr h6_9) | exact absurd this.2 (Int.not_le.mpr h6_14)))
              · refine rpk (e := false) rfl rfl rfl rfl rfl rfl ?_
                refine rpk (e := false) rfl rfl rfl rfl rfl rfl ?_
                refine rNil ?_
                refine qSeq ?_
                refine wF rfl ?_
                refine wSkip ?_
                refine qBlock ?_
                refine qSeq ?_
                refine wRegion ?_
                refine raddF rfl rfl rfl ?_ ?_ rfl rfl rfl ?_
                · (first | omega | assumption | (focus (simp; omega)))
                · (first | omega | assumption | (focus (simp; omega)))
                refine rmI rfl rfl rfl rfl rfl ?_
                refine rNil ?_
                refine qLoop ?_
                exact wlN (ih (i + 1) ⟨by omega, allS hI.2 (by first | exact .inl h6_3 | exact .inr ⟨Int.not_lt.mp h6_9, Int.not_lt.mp h6_14⟩)⟩ (by omega)) (by (repeat first | exact LE.nil _ | refine LE.unk _ _ ?_ | refine LE.eq _ _ _ rfl ?_))
        · refine rNil ?_
          refine qSeq ?_
          refine wSeq ?_
          refine wF rfl ?_
          refine wExit ?_
          refine qSeqX ?_
          refine qLoopX ?_
          refine qBlockX ?_
          refine qSeq ?_
          refine wSeq ?_
          refine wRegion ?_
          refine raB rfl rfl rfl rfl rfl ?_
          refine rNil ?_
          refine qSeq ?_
          refine wRet ?_
          first
            | exact finT rfl ⟨by omega, by omega, by assumption, fun j hj => hI.2 j (by omega)⟩
            | (refine finF rfl fun hw => ?_; obtain ⟨w1, w2, w3, w4⟩ := hw; first | omega | exact h1_11 w3 | (have := (w4 i (by omega)).resolve_left h6_3; unfold digit at this; unfold bt at *; omega) | (have := (w4 i (by omega)).resolve_left h6_3; unfold digit at this; first | exact absurd this.1 (Int.not_le.mpr h6_9) | exact absurd this.2 (Int.not_le.mpr h6_14)))
      · refine rnot (c := false) rfl rfl rfl rfl rfl ?_
        refine rpk (e := true) rfl rfl rfl rfl rfl rfl ?_
        refine rNil ?_
        refine qSeq ?_
        refine wT rfl ?_
        refine wSeq ?_
        refine wRegion ?_
        refine raB rfl rfl rfl rfl rfl ?_
        refine rNil ?_
        refine qSeq ?_
        refine wRet ?_
        refine qSeqR ?_
        first
          | exact finT rfl ⟨by omega, by omega, by assumption, fun j hj => hI.2 j (by omega)⟩
          | (refine finF rfl fun hw => ?_; obtain ⟨w1, w2, w3, w4⟩ := hw; first | omega | exact h1_11 w3 | (have := (w4 i (by omega)).resolve_left h6_3; unfold digit at this; unfold bt at *; omega) | (have := (w4 i (by omega)).resolve_left h6_3; unfold digit at this; first | exact absurd this.1 (Int.not_le.mpr h6_9) | exact absurd this.2 (Int.not_le.mpr h6_14)))

def opName (s : ByteArray) : Prop := s.size ≤ 12 ∧ word s
noncomputable instance (s : ByteArray) : Decidable (opName s) := Classical.propDecidable _

theorem p44 (s : ByteArray) : Pure En 86 [.one (.str s)] [.one (.bool (decide (opName s)))] := by
  refine Pure.of_wp Tryd.func86 rfl (Nat.le_of_ble_eq_true rfl) ?_
  refine wSeq ?_
  refine wRegion ?_
  refine raB rfl rfl rfl rfl rfl ?_
  refine rNil ?_
  refine qSeq ?_
  refine wSeq ?_
  refine wRegion ?_
  refine rmS rfl rfl rfl rfl rfl ?_
  refine rls rfl rfl rfl rfl rfl rfl ?_
  refine rle rfl rfl rfl rfl rfl rfl ?_ ?_ <;> intro h1_2
  · refine rmB rfl rfl rfl rfl rfl ?_
    refine rmS rfl rfl rfl rfl rfl ?_
    refine rclP (p47 _) rfl rfl rfl rfl rfl rfl ?_ ?_ <;> intro h1_5
    · refine rpk (e := true) rfl rfl rfl rfl rfl rfl ?_
      refine raB rfl rfl rfl rfl rfl ?_
      refine rNil ?_
      refine qSeq ?_
      refine wRet ?_
      first | exact finT rfl ⟨by omega, by assumption⟩ | (refine finF rfl fun hw => ?_; obtain ⟨w1, w2⟩ := hw; first | omega | exact h1_5 w2)
    · refine rpk (e := false) rfl rfl rfl rfl rfl rfl ?_
      refine raB rfl rfl rfl rfl rfl ?_
      refine rNil ?_
      refine qSeq ?_
      refine wRet ?_
      first | exact finT rfl ⟨by omega, by assumption⟩ | (refine finF rfl fun hw => ?_; obtain ⟨w1, w2⟩ := hw; first | omega | exact h1_5 w2)
  · refine rmB rfl rfl rfl rfl rfl ?_
    refine rSkip rfl rfl rfl ?_
    refine rSkip rfl rfl rfl ?_
    refine rpk (e := false) rfl rfl rfl rfl rfl rfl ?_
    refine raB rfl rfl rfl rfl rfl ?_
    refine rNil ?_
    refine qSeq ?_
    refine wRet ?_
    first | exact finT rfl ⟨by omega, by assumption⟩ | (refine finF rfl fun hw => ?_; obtain ⟨w1, w2⟩ := hw; first | omega | exact h1_5 w2)

structure Rq where
  cl : Int
  st : Int
  kd : Int
  le : Int
  nm : ByteArray
def Rq.T (r : Rq) : List T := [.int .i64 r.cl, .int .i64 r.st, .int .i64 r.kd, .int .i64 r.le, .str r.nm]
def Rq.OK (r : Rq) : Prop := (0 ≤ r.cl ∧ r.cl ≤ 255) ∧ (1 ≤ r.st ∧ r.st ≤ 65535) ∧ (1 ≤ r.kd ∧ r.kd ≤ 4) ∧ (0 ≤ r.le ∧ r.le ≤ 1000) ∧ opName r.nm ∧ (r.le > 0 ↔ (r.kd = 1 ∨ r.kd = 3))
noncomputable instance (r : Rq) : Decidable r.OK := Classical.propDecidable _

theorem p35 (r : Rq) : Pure En 69 [.agg r.T] [.one (.bool (decide r.OK))] := by
  refine Pure.of_wp Tryd.func69 rfl (Nat.le_of_ble_eq_true rfl) ?_
  refine wSeq ?_
  refine wRegion ?_
  refine rbx (u := .agg [.int _ _, .int _ _, .int _ _, .int _ _, .str _]) rfl rfl rfl rfl rfl rfl rfl ?_
  refine raB rfl rfl rfl rfl rfl ?_
  refine rNil ?_
  refine qSeq ?_
  refine wSeq ?_
  refine wRegion ?_
  refine raI rfl rfl rfl rfl rfl ?_
  refine raI rfl rfl rfl rfl rfl ?_
  refine rNil ?_
  refine qSeq ?_
  refine wSeq ?_
  refine wSeq ?_
  refine wRegion ?_
  refine rfa (off := 2) (s := 1) (r := false) rfl rfl rfl (Nat.succ_ne_zero _) rfl rfl rfl ?_
  refine rlc (v := .int _ _) rfl rfl rfl rfl rfl rfl rfl rfl rfl ?_
  refine req rfl rfl rfl rfl rfl rfl ?_ ?_ <;> intro h2_2
  · refine rmB rfl rfl rfl rfl rfl ?_
    refine rSkip rfl rfl rfl ?_
    refine rSkip rfl rfl rfl ?_
    refine rSkip rfl rfl rfl ?_
    refine rpk (e := true) rfl rfl rfl rfl rfl rfl ?_
    refine rNil ?_
    refine qSeq ?_
    refine wT rfl ?_
    refine wRegion ?_
    refine raI rfl rfl rfl rfl rfl ?_
    refine raI rfl rfl rfl rfl rfl ?_
    refine rNil ?_
    refine qSeq ?_
    refine wSeq ?_
    refine wRegion ?_
    refine rfa (off := 0) (s := 1) (r := false) rfl rfl rfl (Nat.succ_ne_zero _) rfl rfl rfl ?_
    refine rlc (v := .int _ _) rfl rfl rfl rfl rfl rfl rfl rfl rfl ?_
    refine rclP (p12 _ _ _) rfl rfl rfl rfl rfl rfl ?_ ?_ <;> intro h4_2
    · refine rmB rfl rfl rfl rfl rfl ?_
      refine rfa (off := 1) (s := 1) (r := false) rfl rfl rfl (Nat.succ_ne_zero _) rfl rfl rfl ?_
      refine rlc (v := .int _ _) rfl rfl rfl rfl rfl rfl rfl rfl rfl ?_
      refine rclP (p12 _ _ _) rfl rfl rfl rfl rfl rfl ?_ ?_ <;> intro h4_6
      · refine rpk (e := true) rfl rfl rfl rfl rfl rfl ?_
        refine rmB rfl rfl rfl rfl rfl ?_
        refine rfa (off := 2) (s := 1) (r := false) rfl rfl rfl (Nat.succ_ne_zero _) rfl rfl rfl ?_
        refine rlc (v := .int _ _) rfl rfl rfl rfl rfl rfl rfl rfl rfl ?_
        refine rclP (p12 _ _ _) rfl rfl rfl rfl rfl rfl ?_ ?_ <;> intro h4_11
        · refine rpk (e := true) rfl rfl rfl rfl rfl rfl ?_
          refine rmB rfl rfl rfl rfl rfl ?_
          refine rfa (off := 3) (s := 1) (r := false) rfl rfl rfl (Nat.succ_ne_zero _) rfl rfl rfl ?_
          refine rlc (v := .int _ _) rfl rfl rfl rfl rfl rfl rfl rfl rfl ?_
          refine rmI rfl rfl rfl rfl rfl ?_
          refine rmI rfl rfl rfl rfl rfl ?_
          refine rclP (p12 _ _ _) rfl rfl rfl rfl rfl rfl ?_ ?_ <;> intro h4_18
          · refine rpk (e := true) rfl rfl rfl rfl rfl rfl ?_
            refine rmB rfl rfl rfl rfl rfl ?_
            refine rfa (off := 4) (s := 1) (r := false) rfl rfl rfl (Nat.succ_ne_zero _) rfl rfl rfl ?_
            refine rlc (v := .str _) rfl rfl rfl rfl rfl rfl rfl rfl rfl ?_
            refine rclP (p44 _) rfl rfl rfl rfl rfl rfl ?_ ?_ <;> intro h4_23
            · refine rpk (e := true) rfl rfl rfl rfl rfl rfl ?_
              refine raB rfl rfl rfl rfl rfl ?_
              refine rNil ?_
              refine qSeq ?_
              refine wRet ?_
              first
                | exact finT rfl ⟨by omega, by omega, by omega, by omega, by assumption, by omega⟩
                | (refine finF rfl fun hw => ?_; obtain ⟨w1, w2, w3, w4, w5, w6⟩ := hw; first | omega | exact h4_23 w5)
            · refine rpk (e := false) rfl rfl rfl rfl rfl rfl ?_
              refine raB rfl rfl rfl rfl rfl ?_
              refine rNil ?_
              refine qSeq ?_
              refine wRet ?_
              first
                | exact finT rfl ⟨by omega, by omega, by omega, by omega, by assumption, by omega⟩
                | (refine finF rfl fun hw => ?_; obtain ⟨w1, w2, w3, w4, w5, w6⟩ := hw; first | omega | exact h4_23 w5)
          · refine rpk (e := false) rfl rfl rfl rfl rfl rfl ?_
            refine rmB rfl rfl rfl rfl rfl ?_
            refine rSkip rfl rfl rfl ?_
            refine rSkip rfl rfl rfl ?_
            refine rSkip rfl rfl rfl ?_
            refine rpk (e := false) rfl rfl rfl rfl rfl rfl ?_
            refine raB rfl rfl rfl rfl rfl ?_
            refine rNil ?_
            refine qSeq ?_
            refine wRet ?_
            first
              | exact finT rfl ⟨by omega, by omega, by omega, by omega, by assumption, by omega⟩
              | (refine finF rfl fun hw => ?_; obtain ⟨w1, w2, w3, w4, w5, w6⟩ := hw; first | omega | exact h4_23 w5)
        · refine rpk (e := false) rfl rfl rfl rfl rfl rfl ?_
          refine rmB rfl rfl rfl rfl rfl ?_
          refine rSkip rfl rfl rfl ?_
          refine rSkip rfl rfl rfl ?_
          refine rSkip rfl rfl rfl ?_
          refine rSkip rfl rfl rfl ?_
          refine rSkip rfl rfl rfl ?_
          refine rpk (e := false) rfl rfl rfl rfl rfl rfl ?_
          refine rmB rfl rfl rfl rfl rfl ?_
          refine rSkip rfl rfl rfl ?_
          refine rSkip rfl rfl rfl ?_
          refine rSkip rfl rfl rfl ?_
          refine rpk (e := false) rfl rfl rfl rfl rfl rfl ?_
          refine raB rfl rfl rfl rfl rfl ?_
          refine rNil ?_
          refine qSeq ?_
          refine wRet ?_
          first
            | exact finT rfl ⟨by omega, by omega, by omega, by omega, by assumption, by omega⟩
            | (refine finF rfl fun hw => ?_; obtain ⟨w1, w2, w3, w4, w5, w6⟩ := hw; first | omega | exact h4_23 w5)
      · refine rpk (e := false) rfl rfl rfl rfl rfl rfl ?_
        refine rmB rfl rfl rfl rfl rfl ?_
        refine rSkip rfl rfl rfl ?_
        refine rSkip rfl rfl rfl ?_
        refine rSkip rfl rfl rfl ?_
        refine rpk (e := false) rfl rfl rfl rfl rfl rfl ?_
        refine rmB rfl rfl rfl rfl rfl ?_
        refine rSkip rfl rfl rfl ?_
        refine rSkip rfl rfl rfl ?_
        refine rSkip rfl rfl rfl ?_
        refine rSkip rfl rfl rfl ?_
        refine rSkip rfl rfl rfl ?_
        refine rpk (e := false) rfl rfl rfl rfl rfl rfl ?_
        refine rmB rfl rfl rfl rfl rfl ?_
        refine rSkip rfl rfl rfl ?_
        refine rSkip rfl rfl rfl ?_
        refine rSkip rfl rfl rfl ?_
        refine rpk (e := false) rfl rfl rfl rfl rfl rfl ?_
        refine raB rfl rfl rfl rfl rfl ?_
        refine rNil ?_
        refine qSeq ?_
        refine wRet ?_
        first
          | exact finT rfl ⟨by omega, by omega, by omega, by omega, by assumption, by omega⟩
          | (refine finF rfl fun hw => ?_; obtain ⟨w1, w2, w3, w4, w5, w6⟩ := hw; first | omega | exact h4_23 w5)
    · refine rmB rfl rfl rfl rfl rfl ?_
      refine rSkip rfl rfl rfl ?_
      refine rSkip rfl rfl rfl ?_
      refine rSkip rfl rfl rfl ?_
      refine rpk (e := false) rfl rfl rfl rfl rfl rfl ?_
      refine rmB rfl rfl rfl rfl rfl ?_
      refine rSkip rfl rfl rfl ?_
      refine rSkip rfl rfl rfl ?_
      refine rSkip rfl rfl rfl ?_
      refine rpk (e := false) rfl rfl rfl rfl rfl rfl ?_
      refine rmB rfl rfl rfl rfl rfl ?_
      refine rSkip rfl rfl rfl ?_
      refine rSkip rfl rfl rfl ?_
      refine rSkip rfl rfl rfl ?_
      refine rSkip rfl rfl rfl ?_
      refine rSkip rfl rfl rfl ?_
      refine rpk (e := false) rfl rfl rfl rfl rfl rfl ?_
      refine rmB rfl rfl rfl rfl rfl ?_
      refine rSkip rfl rfl rfl ?_
      refine rSkip rfl rfl rfl ?_
      refine rSkip rfl rfl rfl ?_
      refine rpk (e := false) rfl rfl rfl rfl rfl rfl ?_
      refine raB rfl rfl rfl rfl rfl ?_
      refine rNil ?_
      refine qSeq ?_
      refine wRet ?_
      first
        | exact finT rfl ⟨by omega, by omega, by omega, by omega, by assumption, by omega⟩
        | (refine finF rfl fun hw => ?_; obtain ⟨w1, w2, w3, w4, w5, w6⟩ := hw; first | omega | exact h4_23 w5)
  · refine rmB rfl rfl rfl rfl rfl ?_
    refine rfa (off := 2) (s := 1) (r := false) rfl rfl rfl (Nat.succ_ne_zero _) rfl rfl rfl ?_
    refine rlc (v := .int _ _) rfl rfl rfl rfl rfl rfl rfl rfl rfl ?_
    refine req rfl rfl rfl rfl rfl rfl ?_ ?_ <;> intro h2_6
    · refine rpk (e := true) rfl rfl rfl rfl rfl rfl ?_
      refine rNil ?_
      refine qSeq ?_
      refine wT rfl ?_
      refine wRegion ?_
      refine raI rfl rfl rfl rfl rfl ?_
      refine raI rfl rfl rfl rfl rfl ?_
      refine rNil ?_
      refine qSeq ?_
      refine wSeq ?_
      refine wRegion ?_
      refine rfa (off := 0) (s := 1) (r := false) rfl rfl rfl (Nat.succ_ne_zero _) rfl rfl rfl ?_
      refine rlc (v := .int _ _) rfl rfl rfl rfl rfl rfl rfl rfl rfl ?_
      refine rclP (p12 _ _ _) rfl rfl rfl rfl rfl rfl ?_ ?_ <;> intro h4_2
      · refine rmB rfl rfl rfl rfl rfl ?_
        refine rfa (off := 1) (s := 1) (r := false) rfl rfl rfl (Nat.succ_ne_zero _) rfl rfl rfl ?_
        refine rlc (v := .int _ _) rfl rfl rfl rfl rfl rfl rfl rfl rfl ?_
        refine rclP (p12 _ _ _) rfl rfl rfl rfl rfl rfl ?_ ?_ <;> intro h4_6
        · refine rpk (e := true) rfl rfl rfl rfl rfl rfl ?_
          refine rmB rfl rfl rfl rfl rfl ?_
          refine rfa (off := 2) (s := 1) (r := false) rfl rfl rfl (Nat.succ_ne_zero _) rfl rfl rfl ?_
          refine rlc (v := .int _ _) rfl rfl rfl rfl rfl rfl rfl rfl rfl ?_
          refine rclP (p12 _ _ _) rfl rfl rfl rfl rfl rfl ?_ ?_ <;> intro h4_11
          · refine rpk (e := true) rfl rfl rfl rfl rfl rfl ?_
            refine rmB rfl rfl rfl rfl rfl ?_
            refine rfa (off := 3) (s := 1) (r := false) rfl rfl rfl (Nat.succ_ne_zero _) rfl rfl rfl ?_
            refine rlc (v := .int _ _) rfl rfl rfl rfl rfl rfl rfl rfl rfl ?_
            refine rmI rfl rfl rfl rfl rfl ?_
            refine rmI rfl rfl rfl rfl rfl ?_
            refine rclP (p12 _ _ _) rfl rfl rfl rfl rfl rfl ?_ ?_ <;> intro h4_18
            · refine rpk (e := true) rfl rfl rfl rfl rfl rfl ?_
              refine rmB rfl rfl rfl rfl rfl ?_
              refine rfa (off := 4) (s := 1) (r := false) rfl rfl rfl (Nat.succ_ne_zero _) rfl rfl rfl ?_
              refine rlc (v := .str _) rfl rfl rfl rfl rfl rfl rfl rfl rfl ?_
              refine rclP (p44 _) rfl rfl rfl rfl rfl rfl ?_ ?_ <;> intro h4_23
              · refine rpk (e := true) rfl rfl rfl rfl rfl rfl ?_
                refine raB rfl rfl rfl rfl rfl ?_
                refine rNil ?_
                refine qSeq ?_
                refine wRet ?_
                first
                  | exact finT rfl ⟨by omega, by omega, by omega, by omega, by assumption, by omega⟩
                  | (refine finF rfl fun hw => ?_; obtain ⟨w1, w2, w3, w4, w5, w6⟩ := hw; first | omega | exact h4_23 w5)
              · refine rpk (e := false) rfl rfl rfl rfl rfl rfl ?_
                refine raB rfl rfl rfl rfl rfl ?_
                refine rNil ?_
                refine qSeq ?_
                refine wRet ?_
                first
                  | exact finT rfl ⟨by omega, by omega, by omega, by omega, by assumption, by omega⟩
                  | (refine finF rfl fun hw => ?_; obtain ⟨w1, w2, w3, w4, w5, w6⟩ := hw; first | omega | exact h4_23 w5)
            · refine rpk (e := false) rfl rfl rfl rfl rfl rfl ?_
              refine rmB rfl rfl rfl rfl rfl ?_
              refine rSkip rfl rfl rfl ?_
              refine rSkip rfl rfl rfl ?_
              refine rSkip rfl rfl rfl ?_
              refine rpk (e := false) rfl rfl rfl rfl rfl rfl ?_
              refine raB rfl rfl rfl rfl rfl ?_
              refine rNil ?_
              refine qSeq ?_
              refine wRet ?_
              first
                | exact finT rfl ⟨by omega, by omega, by omega, by omega, by assumption, by omega⟩
                | (refine finF rfl fun hw => ?_; obtain ⟨w1, w2, w3, w4, w5, w6⟩ := hw; first | omega | exact h4_23 w5)
          · refine rpk (e := false) rfl rfl rfl rfl rfl rfl ?_
            refine rmB rfl rfl rfl rfl rfl ?_
            refine rSkip rfl rfl rfl ?_
            refine rSkip rfl rfl rfl ?_
            refine rSkip rfl rfl rfl ?_
            refine rSkip rfl rfl rfl ?_
            refine rSkip rfl rfl rfl ?_
            refine rpk (e := false) rfl rfl rfl rfl rfl rfl ?_
            refine rmB rfl rfl rfl rfl rfl ?_
            refine rSkip rfl rfl rfl ?_
            refine rSkip rfl rfl rfl ?_
            refine rSkip rfl rfl rfl ?_
            refine rpk (e := false) rfl rfl rfl rfl rfl rfl ?_
            refine raB rfl rfl rfl rfl rfl ?_
            refine rNil ?_
            refine qSeq ?_
            refine wRet ?_
            first
              | exact finT rfl ⟨by omega, by omega, by omega, by omega, by assumption, by omega⟩
              | (refine finF rfl fun hw => ?_; obtain ⟨w1, w2, w3, w4, w5, w6⟩ := hw; first | omega | exact h4_23 w5)
        · refine rpk (e := false) rfl rfl rfl rfl rfl rfl ?_
          refine rmB rfl rfl rfl rfl rfl ?_
          refine rSkip rfl rfl rfl ?_
          refine rSkip rfl rfl rfl ?_
          refine rSkip rfl rfl rfl ?_
          refine rpk (e := false) rfl rfl rfl rfl rfl rfl ?_
          refine rmB rfl rfl rfl rfl rfl ?_
          refine rSkip rfl rfl rfl ?_
          refine rSkip rfl rfl rfl ?_
          refine rSkip rfl rfl rfl ?_
          refine rSkip rfl rfl rfl ?_
          refine rSkip rfl rfl rfl ?_
          refine rpk (e := false) rfl rfl rfl rfl rfl rfl ?_
          refine rmB rfl rfl rfl rfl rfl ?_
          refine rSkip rfl rfl rfl ?_
          refine rSkip rfl rfl rfl ?_
          refine rSkip rfl rfl rfl ?_
          refine rpk (e := false) rfl rfl rfl rfl rfl rfl ?_
          refine raB rfl rfl rfl rfl rfl ?_
          refine rNil ?_
          refine qSeq ?_
          refine wRet ?_
          first
            | exact finT rfl ⟨by omega, by omega, by omega, by omega, by assumption, by omega⟩
            | (refine finF rfl fun hw => ?_; obtain ⟨w1, w2, w3, w4, w5, w6⟩ := hw; first | omega | exact h4_23 w5)
      · refine rmB rfl rfl rfl rfl rfl ?_
        refine rSkip rfl rfl rfl ?_
        refine rSkip rfl rfl rfl ?_
        refine rSkip rfl rfl rfl ?_
        refine rpk (e := false) rfl rfl rfl rfl rfl rfl ?_
        refine rmB rfl rfl rfl rfl rfl ?_
        refine rSkip rfl rfl rfl ?_
        refine rSkip rfl rfl rfl ?_
        refine rSkip rfl rfl rfl ?_
        refine rpk (e := false) rfl rfl rfl rfl rfl rfl ?_
        refine rmB rfl rfl rfl rfl rfl ?_
        refine rSkip rfl rfl rfl ?_
        refine rSkip rfl rfl rfl ?_
        refine rSkip rfl rfl rfl ?_
        refine rSkip rfl rfl rfl ?_
        refine rSkip rfl rfl rfl ?_
        refine rpk (e := false) rfl rfl rfl rfl rfl rfl ?_
        refine rmB rfl rfl rfl rfl rfl ?_
        refine rSkip rfl rfl rfl ?_
        refine rSkip rfl rfl rfl ?_
        refine rSkip rfl rfl rfl ?_
        refine rpk (e := false) rfl rfl rfl rfl rfl rfl ?_
        refine raB rfl rfl rfl rfl rfl ?_
        refine rNil ?_
        refine qSeq ?_
        refine wRet ?_
        first
          | exact finT rfl ⟨by omega, by omega, by omega, by omega, by assumption, by omega⟩
          | (refine finF rfl fun hw => ?_; obtain ⟨w1, w2, w3, w4, w5, w6⟩ := hw; first | omega | exact h4_23 w5)
    · refine rpk (e := false) rfl rfl rfl rfl rfl rfl ?_
      refine rNil ?_
      refine qSeq ?_
      refine wF rfl ?_
      refine wSkip ?_
      refine qSeq ?_
      refine wSeq ?_
      refine wRegion ?_
      refine rfa (off := 0) (s := 1) (r := false) rfl rfl rfl (Nat.succ_ne_zero _) rfl rfl rfl ?_
      refine rlc (v := .int _ _) rfl rfl rfl rfl rfl rfl rfl rfl rfl ?_
      refine rclP (p12 _ _ _) rfl rfl rfl rfl rfl rfl ?_ ?_ <;> intro h4_2
      · refine rmB rfl rfl rfl rfl rfl ?_
        refine rfa (off := 1) (s := 1) (r := false) rfl rfl rfl (Nat.succ_ne_zero _) rfl rfl rfl ?_
        refine rlc (v := .int _ _) rfl rfl rfl rfl rfl rfl rfl rfl rfl ?_
        refine rclP (p12 _ _ _) rfl rfl rfl rfl rfl rfl ?_ ?_ <;> intro h4_6
        · refine rpk (e := true) rfl rfl rfl rfl rfl rfl ?_
          refine rmB rfl rfl rfl rfl rfl ?_
          refine rfa (off := 2) (s := 1) (r := false) rfl rfl rfl (Nat.succ_ne_zero _) rfl rfl rfl ?_
          refine rlc (v := .int _ _) rfl rfl rfl rfl rfl rfl rfl rfl rfl ?_
          refine rclP (p12 _ _ _) rfl rfl rfl rfl rfl rfl ?_ ?_ <;> intro h4_11
          · refine rpk (e := true) rfl rfl rfl rfl rfl rfl ?_
            refine rmB rfl rfl rfl rfl rfl ?_
            refine rfa (off := 3) (s := 1) (r := false) rfl rfl rfl (Nat.succ_ne_zero _) rfl rfl rfl ?_
            refine rlc (v := .int _ _) rfl rfl rfl rfl rfl rfl rfl rfl rfl ?_
            refine rmI rfl rfl rfl rfl rfl ?_
            refine rmI rfl rfl rfl rfl rfl ?_
            refine rclP (p12 _ _ _) rfl rfl rfl rfl rfl rfl ?_ ?_ <;> intro h4_18
            · refine rpk (e := true) rfl rfl rfl rfl rfl rfl ?_
              refine rmB rfl rfl rfl rfl rfl ?_
              refine rfa (off := 4) (s := 1) (r := false) rfl rfl rfl (Nat.succ_ne_zero _) rfl rfl rfl ?_
              refine rlc (v := .str _) rfl rfl rfl rfl rfl rfl rfl rfl rfl ?_
              refine rclP (p44 _) rfl rfl rfl rfl rfl rfl ?_ ?_ <;> intro h4_23
              · refine rpk (e := true) rfl rfl rfl rfl rfl rfl ?_
                refine raB rfl rfl rfl rfl rfl ?_
                refine rNil ?_
                refine qSeq ?_
                refine wRet ?_
                first
                  | exact finT rfl ⟨by omega, by omega, by omega, by omega, by assumption, by omega⟩
                  | (refine finF rfl fun hw => ?_; obtain ⟨w1, w2, w3, w4, w5, w6⟩ := hw; first | omega | exact h4_23 w5)
              · refine rpk (e := false) rfl rfl rfl rfl rfl rfl ?_
                refine raB rfl rfl rfl rfl rfl ?_
                refine rNil ?_
                refine qSeq ?_
                refine wRet ?_
                first
                  | exact finT rfl ⟨by omega, by omega, by omega, by omega, by assumption, by omega⟩
                  | (refine finF rfl fun hw => ?_; obtain ⟨w1, w2, w3, w4, w5, w6⟩ := hw; first | omega | exact h4_23 w5)
            · refine rpk (e := false) rfl rfl rfl rfl rfl rfl ?_
              refine rmB rfl rfl rfl rfl rfl ?_
              refine rSkip rfl rfl rfl ?_
              refine rSkip rfl rfl rfl ?_
              refine rSkip rfl rfl rfl ?_
              refine rpk (e := false) rfl rfl rfl rfl rfl rfl ?_
              refine raB rfl rfl rfl rfl rfl ?_
              refine rNil ?_
              refine qSeq ?_
              refine wRet ?_
              first
                | exact finT rfl ⟨by omega, by omega, by omega, by omega, by assumption, by omega⟩
                | (refine finF rfl fun hw => ?_; obtain ⟨w1, w2, w3, w4, w5, w6⟩ := hw; first | omega | exact h4_23 w5)
          · refine rpk (e := false) rfl rfl rfl rfl rfl rfl ?_
            refine rmB rfl rfl rfl rfl rfl ?_
            refine rSkip rfl rfl rfl ?_
            refine rSkip rfl rfl rfl ?_
            refine rSkip rfl rfl rfl ?_
            refine rSkip rfl rfl rfl ?_
            refine rSkip rfl rfl rfl ?_
            refine rpk (e := false) rfl rfl rfl rfl rfl rfl ?_
            refine rmB rfl rfl rfl rfl rfl ?_
            refine rSkip rfl rfl rfl ?_
            refine rSkip rfl rfl rfl ?_
            refine rSkip rfl rfl rfl ?_
            refine rpk (e := false) rfl rfl rfl rfl rfl rfl ?_
            refine raB rfl rfl rfl rfl rfl ?_
            refine rNil ?_
            refine qSeq ?_
            refine wRet ?_
            first
              | exact finT rfl ⟨by omega, by omega, by omega, by omega, by assumption, by omega⟩
              | (refine finF rfl fun hw => ?_; obtain ⟨w1, w2, w3, w4, w5, w6⟩ := hw; first | omega | exact h4_23 w5)
        · refine rpk (e := false) rfl rfl rfl rfl rfl rfl ?_
          refine rmB rfl rfl rfl rfl rfl ?_
          refine rSkip rfl rfl rfl ?_
          refine rSkip rfl rfl rfl ?_
          refine rSkip rfl rfl rfl ?_
          refine rpk (e := false) rfl rfl rfl rfl rfl rfl ?_
          refine rmB rfl rfl rfl rfl rfl ?_
          refine rSkip rfl rfl rfl ?_
          refine rSkip rfl rfl rfl ?_
          refine rSkip rfl rfl rfl ?_
          refine rSkip rfl rfl rfl ?_
          refine rSkip rfl rfl rfl ?_
          refine rpk (e := false) rfl rfl rfl rfl rfl rfl ?_
          refine rmB rfl rfl rfl rfl rfl ?_
          refine rSkip rfl rfl rfl ?_
          refine rSkip rfl rfl rfl ?_
          refine rSkip rfl rfl rfl ?_
          refine rpk (e := false) rfl rfl rfl rfl rfl rfl ?_
          refine raB rfl rfl rfl rfl rfl ?_
          refine rNil ?_
          refine qSeq ?_
          refine wRet ?_
          first
            | exact finT rfl ⟨by omega, by omega, by omega, by omega, by assumption, by omega⟩
            | (refine finF rfl fun hw => ?_; obtain ⟨w1, w2, w3, w4, w5, w6⟩ := hw; first | omega | exact h4_23 w5)
      · refine rmB rfl rfl rfl rfl rfl ?_
        refine rSkip rfl rfl rfl ?_
        refine rSkip rfl rfl rfl ?_
        refine rSkip rfl rfl rfl ?_
        refine rpk (e := false) rfl rfl rfl rfl rfl rfl ?_
        refine rmB rfl rfl rfl rfl rfl ?_
        refine rSkip rfl rfl rfl ?_
        refine rSkip rfl rfl rfl ?_
        refine rSkip rfl rfl rfl ?_
        refine rpk (e := false) rfl rfl rfl rfl rfl rfl ?_
        refine rmB rfl rfl rfl rfl rfl ?_
        refine rSkip rfl rfl rfl ?_
        refine rSkip rfl rfl rfl ?_
        refine rSkip rfl rfl rfl ?_
        refine rSkip rfl rfl rfl ?_
        refine rSkip rfl rfl rfl ?_
        refine rpk (e := false) rfl rfl rfl rfl rfl rfl ?_
        refine rmB rfl rfl rfl rfl rfl ?_
        refine rSkip rfl rfl rfl ?_
        refine rSkip rfl rfl rfl ?_
        refine rSkip rfl rfl rfl ?_
        refine rpk (e := false) rfl rfl rfl rfl rfl rfl ?_
        refine raB rfl rfl rfl rfl rfl ?_
        refine rNil ?_
        refine qSeq ?_
        refine wRet ?_
        first
          | exact finT rfl ⟨by omega, by omega, by omega, by omega, by assumption, by omega⟩
          | (refine finF rfl fun hw => ?_; obtain ⟨w1, w2, w3, w4, w5, w6⟩ := hw; first | omega | exact h4_23 w5)

def bV (b : Int) : List V := [.int .u8 b]
theorem takeAll {l : List Int} {m : Nat} (h : l.length = m) : (((l.map bV).drop 0).take m) = l.map fun b => [.int .u8 b] := by
  rw [List.drop_zero, List.take_of_length_le (by simp; omega)]; rfl
theorem strOf_size (l : List Int) : (strOf l).size = l.length := by
  simp [strOf, ByteArray.size]
theorem setMap {l : List Int} {i : Nat} {x : Int} : (l.map bV).set i (bV x) = (l.set i x).map bV := by
  rw [List.map_set]

end Go.Proofs.YtcafccndgpopkaaDoor
