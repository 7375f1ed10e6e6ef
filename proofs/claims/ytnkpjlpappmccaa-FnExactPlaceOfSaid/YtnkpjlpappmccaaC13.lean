import Derived.Test.YtnkpjlpappmccaaC12
namespace Go.Proofs.Ytnkpjlpappmccaa
open Go.V
set_option linter.unusedVariables false
set_option linter.unusedSimpArgs false
set_option maxRecDepth 20000
set_option maxHeartbeats 4000000

noncomputable def longIx (L : List ByteArray) : Int := firstIx (fun s => decide (s.size > 20000) = true) L
noncomputable def placeS (L : List ByteArray) (c st : Int) : Int × Int :=
  if L.length > 4096 then (0, 2) else if L.length > 100 then (0, 4) else if 0 ≤ longIx L then (0, 1) else if firstIx (isCall c st) L < 0 then (0, 5) else (firstIx (isCall c st) L, 0)
theorem place_1 {L : List ByteArray} {c st : Int} (h : L.length > 4096) : placeS L c st = (0, 2) := by simp [placeS, h]
theorem place_2 {L : List ByteArray} {c st : Int} (h : ¬ L.length > 4096) (h1 : L.length > 100) : placeS L c st = (0, 4) := by simp [placeS, h, h1]
theorem place_3 {L : List ByteArray} {c st : Int} (h1 : ¬ L.length > 100) (h2 : 0 ≤ longIx L) : placeS L c st = (0, 1) := by
  unfold placeS; rw [if_neg (by omega), if_neg h1, if_pos h2]
theorem place_4 {L : List ByteArray} {c st : Int} (h1 : ¬ L.length > 100) (h2 : ¬ 0 ≤ longIx L) (h3 : firstIx (isCall c st) L < 0) : placeS L c st = (0, 5) := by
  unfold placeS; rw [if_neg (by omega), if_neg h1, if_neg h2, if_pos h3]
theorem place_5 {L : List ByteArray} {c st : Int} (h1 : ¬ L.length > 100) (h2 : ¬ 0 ≤ longIx L) (h3 : ¬ firstIx (isCall c st) L < 0) : placeS L c st = (firstIx (isCall c st) L, 0) := by
  unfold placeS; rw [if_neg (by omega), if_neg h1, if_neg h2, if_neg h3]

theorem p6 (nn : Bool) (L : List ByteArray) (c st : Int) : Pure En 6 [.one (.sl nn (strs L)), .one (.int .i64 c), .one (.int .i64 st)] [.one (.int .i64 (placeS L c st).1), .one (.int .i64 (placeS L c st).2)] := by
  have hl := strs_length L
  refine Pure.of_wp Try.func6 rfl (Nat.le_of_ble_eq_true rfl) ?_
  refine wSeq ?_
  refine wRegion ?_
  refine raI rfl rfl rfl rfl rfl ?_
  refine raI rfl rfl rfl rfl rfl ?_
  refine rNil ?_
  refine qSeq ?_
  refine wSeq ?_
  refine wSeq ?_
  refine wRegion ?_
  refine rmL rfl rfl rfl rfl rfl ?_
  refine rll rfl rfl rfl rfl rfl rfl ?_
  refine rgt rfl rfl rfl rfl rfl rfl ?_ ?_ <;> intro h1_2
  · refine rNil ?_
    refine qSeq ?_
    refine wT rfl ?_
    refine wSeq ?_
    refine wRegion ?_
    refine raI rfl rfl rfl rfl rfl ?_
    refine raI rfl rfl rfl rfl rfl ?_
    refine rNil ?_
    refine qSeq ?_
    refine wRet ?_
    refine qSeqR ?_
    rw [place_1 (by omega)]; exact fin rfl rfl
  · refine rNil ?_
    refine qSeq ?_
    refine wF rfl ?_
    refine wSkip ?_
    refine qSeq ?_
    refine wSeq ?_
    refine wSeq ?_
    refine wRegion ?_
    refine rmL rfl rfl rfl rfl rfl ?_
    refine rll rfl rfl rfl rfl rfl rfl ?_
    refine rgt rfl rfl rfl rfl rfl rfl ?_ ?_ <;> intro h3_2
    · refine rNil ?_
      refine qSeq ?_
      refine wT rfl ?_
      refine wSeq ?_
      refine wRegion ?_
      refine raI rfl rfl rfl rfl rfl ?_
      refine raI rfl rfl rfl rfl rfl ?_
      refine rNil ?_
      refine qSeq ?_
      refine wRet ?_
      refine qSeqR ?_
      rw [place_2 (by omega) (by omega)]; exact fin rfl rfl
    · refine rNil ?_
      refine qSeq ?_
      refine wF rfl ?_
      refine wSkip ?_
      refine qSeq ?_
      refine wSeq ?_
      refine wSeq ?_
      refine wRegion ?_
      refine raI rfl rfl rfl rfl rfl ?_
      refine rNil ?_
      refine qSeq ?_
      refine wBlock ?_
      refine wLoop ?_
      refine loopGo0 (fun (i : Nat) => [.sl false nn (strs L), .int .i64 c, .int .i64 st, .unk, .unk, .unk, .unk, .unk, .int .i64 i]) (fun (i : Nat) => i ≤ L.length ∧ ∀ j, j < i → ¬ (L.getD j ⟨#[]⟩).size > 20000) (fun (i : Nat) => L.length - i) 0 ?_ ?_ ?_
      · exact ⟨Nat.zero_le _, all0⟩
      · (repeat first | exact LE.nil _ | refine LE.unk _ _ ?_ | refine LE.eq _ _ _ rfl ?_)
      intro i hI ih
      refine lStep ?_
      refine wSeq ?_
      refine wSeq ?_
      refine wRegion ?_
      refine rmI rfl rfl rfl rfl rfl ?_
      refine rmL rfl rfl rfl rfl rfl ?_
      refine rll rfl rfl rfl rfl rfl rfl ?_
      refine rlt rfl rfl rfl rfl rfl rfl ?_ ?_ <;> intro h6_3
      · refine rNil ?_
        refine qSeq ?_
        refine wT rfl ?_
        refine wSkip ?_
        refine qSeq ?_
        refine wSeq ?_
        refine wBlock ?_
        refine wSeq ?_
        refine wRegion ?_
        refine rmL rfl rfl rfl rfl rfl ?_
        refine rmI rfl rfl rfl rfl rfl ?_
        (apply rixl rfl rfl rfl rfl; (first | omega | assumption | (focus (simp; omega))); (first | rfl | assumption | (exact strs_get (by omega))); rfl; rfl; rfl; rfl)
        refine rlic (v := .str _) rfl rfl rfl rfl rfl rfl rfl rfl ?_
        refine rls rfl rfl rfl rfl rfl rfl ?_
        refine rgt rfl rfl rfl rfl rfl rfl ?_ ?_ <;> intro h8_5
        · refine rNil ?_
          refine qSeq ?_
          refine wT rfl ?_
          refine wSeq ?_
          refine wRegion ?_
          refine raI rfl rfl rfl rfl rfl ?_
          refine raI rfl rfl rfl rfl rfl ?_
          refine rNil ?_
          refine qSeq ?_
          refine wRet ?_
          refine qBlockR ?_
          refine qSeqR ?_
          refine qLoopR ?_
          refine qBlockR ?_
          refine qSeqR ?_
          have e := firstIx_some (fun s => decide (s.size > 20000) = true) (L := L) (i := i) (by omega) (fun j hj e => hI.2 j hj (of_decide_eq_true e)) (decide_eq_true (show (L.getD i ⟨#[]⟩).size > 20000 by have h : ((L.getD i ⟨#[]⟩).size : Int) > 20000 := h8_5; omega))
          rw [place_3 (by omega) (by unfold longIx; rw [e]; omega)]; exact fin rfl rfl
        · refine rNil ?_
          refine qSeq ?_
          refine wF rfl ?_
          refine wSkip ?_
          refine qBlock ?_
          refine qSeq ?_
          refine wRegion ?_
          refine rmI rfl rfl rfl rfl rfl ?_
          refine raddF rfl rfl rfl ?_ ?_ rfl rfl rfl ?_
          · (first | omega | assumption | (focus (simp; omega)))
          · (first | omega | assumption | (focus (simp; omega)))
          refine raI rfl rfl rfl rfl rfl ?_
          refine rNil ?_
          refine qLoop ?_
          exact wlN (ih (i + 1) ⟨by omega, allS hI.2 (by have h : ¬ ((L.getD i ⟨#[]⟩).size : Int) > 20000 := h8_5; omega)⟩ (by omega)) (by (repeat first | exact LE.nil _ | refine LE.unk _ _ ?_ | refine LE.eq _ _ _ rfl ?_))
      · refine rNil ?_
        refine qSeq ?_
        refine wF rfl ?_
        refine wExit ?_
        refine qSeqX ?_
        refine qLoopX ?_
        refine qBlockX ?_
        refine qSeq ?_
        refine wSeq ?_
        refine wRegion ?_
        refine rmL rfl rfl rfl rfl rfl ?_
        refine rmI rfl rfl rfl rfl rfl ?_
        refine rmI rfl rfl rfl rfl rfl ?_
        refine rcl (p14 nn L c st (by omega)) rfl rfl rfl rfl rfl rfl ?_
        refine raI rfl rfl rfl rfl rfl ?_
        refine rNil ?_
        refine qSeq ?_
        refine wSeq ?_
        refine wSeq ?_
        refine wRegion ?_
        refine rmI rfl rfl rfl rfl rfl ?_
        refine rlt rfl rfl rfl rfl rfl rfl ?_ ?_ <;> intro h11_1
        · refine rNil ?_
          refine qSeq ?_
          refine wT rfl ?_
          refine wSeq ?_
          refine wRegion ?_
          refine raI rfl rfl rfl rfl rfl ?_
          refine raI rfl rfl rfl rfl rfl ?_
          refine rNil ?_
          refine qSeq ?_
          refine wRet ?_
          refine qSeqR ?_
          have e := firstIx_none (fun s => decide (s.size > 20000) = true) (L := L) (fun j hj e => hI.2 j (by omega) (of_decide_eq_true e))
          rw [place_4 (by omega) (by unfold longIx; rw [e]; decide) h11_1]; exact fin rfl rfl
        · refine rNil ?_
          refine qSeq ?_
          refine wF rfl ?_
          refine wSkip ?_
          refine qSeq ?_
          refine wSeq ?_
          refine wRegion ?_
          refine rmI rfl rfl rfl rfl rfl ?_
          refine raI rfl rfl rfl rfl rfl ?_
          refine raI rfl rfl rfl rfl rfl ?_
          refine rNil ?_
          refine qSeq ?_
          refine wRet ?_
          have e := firstIx_none (fun s => decide (s.size > 20000) = true) (L := L) (fun j hj e => hI.2 j (by omega) (of_decide_eq_true e))
          rw [place_5 (by omega) (by unfold longIx; rw [e]; decide) h11_1]; exact fin rfl rfl
theorem p8 (nn : Bool) (L : List ByteArray) (c st : Int) (hL : L.length ≤ 1048576) : Pure En 8 [.one (.sl nn (strs L)), .one (.int .i64 c), .one (.int .i64 st)] [.one (.int .i64 (placeS L c st).1), .one (.int .i64 (placeS L c st).2)] := by
  have hl := strs_length L
  refine Pure.of_wp Try.func8 rfl (Nat.le_of_ble_eq_true rfl) ?_
  refine wSeq ?_
  refine wRegion ?_
  refine raI rfl rfl rfl rfl rfl ?_
  refine raI rfl rfl rfl rfl rfl ?_
  refine rNil ?_
  refine qSeq ?_
  refine wSeq ?_
  refine wBlock ?_
  refine wSeq ?_
  refine wRegion ?_
  refine rmL rfl rfl rfl rfl rfl ?_
  refine rclP (p15 nn (strs L)) rfl rfl rfl rfl rfl rfl ?_ ?_ <;> intro h1_1
  · refine raB rfl rfl rfl rfl rfl ?_
    refine rNil ?_
    refine qSeq ?_
    refine wT rfl ?_
    refine wSeq ?_
    refine wRegion ?_
    refine raI rfl rfl rfl rfl rfl ?_
    refine raI rfl rfl rfl rfl rfl ?_
    refine rNil ?_
    refine qSeq ?_
    refine wRet ?_
    refine qBlockR ?_
    refine qSeqR ?_
    rw [place_1 (by omega)]; exact fin rfl rfl
  · refine raB rfl rfl rfl rfl rfl ?_
    refine rNil ?_
    refine qSeq ?_
    refine wF rfl ?_
    refine wSeq ?_
    refine wRegion ?_
    refine rmL rfl rfl rfl rfl rfl ?_
    refine rll rfl rfl rfl rfl rfl rfl ?_
    refine rgt rfl rfl rfl rfl rfl rfl ?_ ?_ <;> intro h3_2
    · refine raB rfl rfl rfl rfl rfl ?_
      refine rNil ?_
      refine qSeq ?_
      refine wT rfl ?_
      refine wSeq ?_
      refine wRegion ?_
      refine raI rfl rfl rfl rfl rfl ?_
      refine raI rfl rfl rfl rfl rfl ?_
      refine rNil ?_
      refine qSeq ?_
      refine wRet ?_
      refine qBlockR ?_
      refine qSeqR ?_
      rw [place_2 (by omega) (by omega)]; exact fin rfl rfl
    · refine raB rfl rfl rfl rfl rfl ?_
      refine rNil ?_
      refine qSeq ?_
      refine wF rfl ?_
      refine wSeq ?_
      refine wRegion ?_
      refine rmL rfl rfl rfl rfl rfl ?_
      refine ropB (o16 false nn L (fun s => decide (s.size > 20000)) 0 hL (fun s m hm => o17 s)) rfl rfl rfl rfl rfl rfl ?_ ?_
      all_goals intro h5_1
      · refine raB rfl rfl rfl rfl rfl ?_
        refine rNil ?_
        refine qSeq ?_
        refine wT rfl ?_
        refine wSeq ?_
        refine wRegion ?_
        refine raI rfl rfl rfl rfl rfl ?_
        refine raI rfl rfl rfl rfl rfl ?_
        refine rNil ?_
        refine qSeq ?_
        refine wRet ?_
        refine qBlockR ?_
        refine qSeqR ?_
        rw [place_3 (by omega) (of_decide_eq_true h5_1)]; exact fin rfl rfl
      · refine raB rfl rfl rfl rfl rfl ?_
        refine rNil ?_
        refine qSeq ?_
        refine wF rfl ?_
        refine wSkip ?_
        refine qBlock ?_
        refine qSeq ?_
        refine wSeq ?_
        refine wRegion ?_
        refine rmL rfl rfl rfl rfl rfl ?_
        refine rmI rfl rfl rfl rfl rfl ?_
        refine rmI rfl rfl rfl rfl rfl ?_
        refine rcl (p18 nn L c st hL) rfl rfl rfl rfl rfl rfl ?_
        refine raI rfl rfl rfl rfl rfl ?_
        refine rNil ?_
        refine qSeq ?_
        refine wSeq ?_
        refine wSeq ?_
        refine wRegion ?_
        refine rmI rfl rfl rfl rfl rfl ?_
        refine rlt rfl rfl rfl rfl rfl rfl ?_ ?_ <;> intro h8_1
        · refine rNil ?_
          refine qSeq ?_
          refine wT rfl ?_
          refine wSeq ?_
          refine wRegion ?_
          refine raI rfl rfl rfl rfl rfl ?_
          refine raI rfl rfl rfl rfl rfl ?_
          refine rNil ?_
          refine qSeq ?_
          refine wRet ?_
          refine qSeqR ?_
          rw [place_4 (by omega) (of_decide_eq_false h5_1) h8_1]; exact fin rfl rfl
        · refine rNil ?_
          refine qSeq ?_
          refine wF rfl ?_
          refine wSkip ?_
          refine qSeq ?_
          refine wSeq ?_
          refine wRegion ?_
          refine rmI rfl rfl rfl rfl rfl ?_
          refine raI rfl rfl rfl rfl rfl ?_
          refine raI rfl rfl rfl rfl rfl ?_
          refine rNil ?_
          refine qSeq ?_
          refine wRet ?_
          rw [place_5 (by omega) (of_decide_eq_false h5_1) h8_1]; exact fin rfl rfl

theorem eq_of_getD {L K : List ByteArray} (hl : L.length = K.length) (h : ∀ j, j < L.length → L.getD j ⟨#[]⟩ = K.getD j ⟨#[]⟩) : L = K := by
  apply List.ext_getElem hl
  intro i h1 h2
  have := h i h1
  simpa [h1, h2] using this
noncomputable instance (L K : List ByteArray) : Decidable (L = K) := Classical.propDecidable _
theorem p9 (nn mm : Bool) (L K : List ByteArray) (hL : L.length ≤ 1048576) : Pure En 9 [.one (.sl nn (strs L)), .one (.sl mm (strs K))] [.one (.bool (decide (L = K)))] := by
  have hl := strs_length L
  have hk := strs_length K
  refine Pure.of_wp Try.func9 rfl (Nat.le_of_ble_eq_true rfl) ?_
  refine wSeq ?_
  refine wRegion ?_
  refine raB rfl rfl rfl rfl rfl ?_
  refine rNil ?_
  refine qSeq ?_
  refine wSeq ?_
  refine wSeq ?_
  refine wRegion ?_
  refine rmL rfl rfl rfl rfl rfl ?_
  refine rll rfl rfl rfl rfl rfl rfl ?_
  refine rmL rfl rfl rfl rfl rfl ?_
  refine rll rfl rfl rfl rfl rfl rfl ?_
  refine rne rfl rfl rfl rfl rfl rfl ?_ ?_ <;> intro h1_4
  · refine rNil ?_
    refine qSeq ?_
    refine wT rfl ?_
    refine wSeq ?_
    refine wRegion ?_
    refine raB rfl rfl rfl rfl rfl ?_
    refine rNil ?_
    refine qSeq ?_
    refine wRet ?_
    refine qSeqR ?_
    refine finF rfl fun e => ?_
    subst e; omega
  · refine rNil ?_
    refine qSeq ?_
    refine wF rfl ?_
    refine wSkip ?_
    refine qSeq ?_
    refine wSeq ?_
    refine wSeq ?_
    refine wRegion ?_
    refine raI rfl rfl rfl rfl rfl ?_
    refine rNil ?_
    refine qSeq ?_
    refine wBlock ?_
    refine wLoop ?_
    refine loopGo0 (fun (i : Nat) => [.sl false nn (strs L), .sl false mm (strs K), .unk, .unk, .unk, .int .i64 i]) (fun (i : Nat) => i ≤ L.length ∧ ∀ j, j < i → L.getD j ⟨#[]⟩ = K.getD j ⟨#[]⟩) (fun (i : Nat) => L.length - i) 0 ?_ ?_ ?_
    · exact ⟨Nat.zero_le _, all0⟩
    · (repeat first | exact LE.nil _ | refine LE.unk _ _ ?_ | refine LE.eq _ _ _ rfl ?_)
    intro i hI ih
    refine lStep ?_
    refine wSeq ?_
    refine wSeq ?_
    refine wRegion ?_
    refine rmI rfl rfl rfl rfl rfl ?_
    refine rmL rfl rfl rfl rfl rfl ?_
    refine rll rfl rfl rfl rfl rfl rfl ?_
    refine rlt rfl rfl rfl rfl rfl rfl ?_ ?_ <;> intro h4_3
    · refine rNil ?_
      refine qSeq ?_
      refine wT rfl ?_
      refine wSkip ?_
      refine qSeq ?_
      refine wSeq ?_
      refine wBlock ?_
      refine wSeq ?_
      refine wDraw [0, 0, 3, 7, 0, 0, 48, 112, 255] rfl (by decide +kernel) ?_
      refine dmL rfl rfl rfl rfl rfl ?_
      refine dmI rfl rfl rfl rfl rfl ?_
      (apply dixl rfl rfl rfl rfl; (first | omega | assumption | (focus (simp; omega))); (first | rfl | assumption | (exact strs_get (by omega))); rfl; rfl; rfl; rfl)
      refine dlic (v := .str _) rfl rfl rfl rfl rfl rfl rfl rfl ?_
      refine dmL rfl rfl rfl rfl rfl ?_
      refine dmI rfl rfl rfl rfl rfl ?_
      (apply dixl rfl rfl rfl rfl; (first | omega | assumption | (focus (simp; omega))); (first | rfl | assumption | (exact strs_get (by omega))); rfl; rfl; rfl; rfl)
      refine dlic (v := .str _) rfl rfl rfl rfl rfl rfl rfl rfl ?_
      refine dsne rfl rfl rfl rfl rfl rfl ?_ ?_ <;> intro h6_8
      · refine dNilR 9 [0, 0, 0, 0, 0, 0, 0, 0, 0] [] rfl rfl (by decide +kernel) trivial ?_
        refine qSeq ?_
        refine wT rfl ?_
        refine wSeq ?_
        refine wRegion ?_
        refine raB rfl rfl rfl rfl rfl ?_
        refine rNil ?_
        refine qSeq ?_
        refine wRet ?_
        refine qBlockR ?_
        refine qSeqR ?_
        refine qLoopR ?_
        refine qBlockR ?_
        refine qSeqR ?_
        refine finF rfl fun e => ?_
        subst e; exact h6_8 rfl
      · refine dNilR 9 [0, 0, 0, 0, 0, 0, 0, 0, 0] [] rfl rfl (by decide +kernel) trivial ?_
        refine qSeq ?_
        refine wF rfl ?_
        refine wSkip ?_
        refine qBlock ?_
        refine qSeq ?_
        refine wRegion ?_
        refine rmI rfl rfl rfl rfl rfl ?_
        refine raddF rfl rfl rfl ?_ ?_ rfl rfl rfl ?_
        · (first | omega | assumption | (focus (simp; omega)))
        · (first | omega | assumption | (focus (simp; omega)))
        refine raI rfl rfl rfl rfl rfl ?_
        refine rNil ?_
        refine qLoop ?_
        exact wlN (ih (i + 1) ⟨by omega, allS hI.2 (Decidable.not_not.mp h6_8)⟩ (by omega)) (by (repeat first | exact LE.nil _ | refine LE.unk _ _ ?_ | refine LE.eq _ _ _ rfl ?_))
    · refine rNil ?_
      refine qSeq ?_
      refine wF rfl ?_
      refine wExit ?_
      refine qSeqX ?_
      refine qLoopX ?_
      refine qBlockX ?_
      refine qSeq ?_
      refine wSeq ?_
      refine wRegion ?_
      refine raB rfl rfl rfl rfl rfl ?_
      refine rNil ?_
      refine qSeq ?_
      refine wRet ?_
      exact finT rfl (eq_of_getD (by omega) (fun j hj => hI.2 j (by omega)))
end Go.Proofs.Ytnkpjlpappmccaa
