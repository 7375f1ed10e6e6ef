import Derived.Test.YtnkpjlpappmccaaC5
namespace Go.Proofs.Ytnkpjlpappmccaa
open Go.V
set_option linter.unusedVariables false
set_option linter.unusedSimpArgs false
set_option maxRecDepth 20000
set_option maxHeartbeats 4000000

noncomputable def nulB (s : ByteArray) : Bool := if s.size = 0 then false else decide (bt s 0 = 0)
noncomputable def rqB (s : ByteArray) : Rq := if s.size = 0 then Rq0 else if bt s 0 = 0 then Rq0 else if (s.size : Int) < 1 + 13 * (bt s 0 - 1) then Rq0 else rqIf (rqTail s)
noncomputable def rowsB (s : ByteArray) : List (List T) := if s.size = 0 then [] else if bt s 0 = 0 then [] else if (s.size : Int) < 1 + 13 * (bt s 0 - 1) then [] else (rds s (cnt s)).map Rd.T

theorem awB (nul : Bool) (r : Rq) (x : List (List T)) (nn : Bool) (b : A) : AWL [.agg (btT nul r (.sl nn x)), b] [.agg (btT nul r (.sl false x)), b] :=
  .cons _ _ _ _ (.agg _ _ (.cons _ _ _ _ (.refl _) (.cons _ _ _ _ (.refl _) (.cons _ _ _ _ (.refl _) (.cons _ _ _ _ (.refl _) (.cons _ _ _ _ (.refl _) (.cons _ _ _ _ (.refl _) (.cons _ _ _ _ (.sl nn x) .nil)))))))) (.cons _ _ _ _ (by cases b with
    | one x => exact .one _ _ (.refl _)
    | agg xs => exact .agg _ _ (by induction xs with
      | nil => exact .nil
      | cons x xs ih => exact .cons _ _ _ _ (.refl _) ih)) .nil)
theorem awN (nul : Bool) (r : Rq) (b : A) : AWL [.agg (btT nul r .nsl), b] [.agg (btT nul r (.sl false [])), b] :=
  .cons _ _ _ _ (.agg _ _ (.cons _ _ _ _ (.refl _) (.cons _ _ _ _ (.refl _) (.cons _ _ _ _ (.refl _) (.cons _ _ _ _ (.refl _) (.cons _ _ _ _ (.refl _) (.cons _ _ _ _ (.refl _) (.cons _ _ _ _ .nil .nil)))))))) (.cons _ _ _ _ (by cases b with
    | one x => exact .one _ _ (.refl _)
    | agg xs => exact .agg _ _ (by induction xs with
      | nil => exact .nil
      | cons x xs ih => exact .cons _ _ _ _ (.refl _) ih)) .nil)

theorem p28w (s : ByteArray) : Pure En 28 [.one (.str s)] [.agg (btT (nulB s) (rqB s) (.sl false (rowsB s))), .one (.bool (decide (batchOK s)))] := by
  have h := p28 s
  unfold nulB rqB rowsB
  by_cases h0 : s.size = 0
  · rw [resB_0 h0] at h
    simp only [h0, if_true]
    exact h.weak (awN _ _ _)
  · by_cases h1 : bt s 0 = 0
    · rw [resB_1 h0 h1] at h
      simp only [h0, h1, if_true, if_false, decide_true]
      exact h.weak (awB _ _ _ _ _)
    · by_cases h2 : (s.size : Int) < 1 + 13 * (bt s 0 - 1)
      · rw [resB_2 h0 h1 h2] at h
        simp only [h0, h1, h2, if_true, if_false, decide_false]
        exact h.weak (awN _ _ _)
      · rw [resB_3 h0 h1 h2] at h
        simp only [h0, h1, h2, if_false, decide_false]
        exact h.weak (awB _ _ _ _ _)

/-- Is it the text of this client's request? -/
def isCall (c st : Int) (s : ByteArray) : Prop := batchOK s ∧ nulB s = false ∧ (rqB s).cl = c ∧ (rqB s).st = st
noncomputable instance (c st : Int) (s : ByteArray) : Decidable (isCall c st s) := Classical.propDecidable _

/-- The first place of such a one, -1 without one. -/
noncomputable def firstIx (p : ByteArray → Prop) [DecidablePred p] : List ByteArray → Int
  | [] => -1
  | x :: l => if p x then 0 else if firstIx p l < 0 then -1 else firstIx p l + 1
theorem firstIx_none (p : ByteArray → Prop) [DecidablePred p] {L : List ByteArray} (h : ∀ j, j < L.length → ¬ p (L.getD j ⟨#[]⟩)) : firstIx p L = -1 := by
  induction L with
  | nil => rfl
  | cons x l ih =>
    have h0 : ¬ p x := h 0 (by simp)
    have h1 := ih fun j hj => by simpa using h (j + 1) (by simp; omega)
    simp [firstIx, h0, h1]
theorem firstIx_some (p : ByteArray → Prop) [DecidablePred p] {L : List ByteArray} {i : Nat} (hi : i < L.length) (h : ∀ j, j < i → ¬ p (L.getD j ⟨#[]⟩)) (hp : p (L.getD i ⟨#[]⟩)) : firstIx p L = i := by
  induction L generalizing i with
  | nil => simp at hi
  | cons x l ih =>
    cases i with
    | zero => have : p x := hp; simp [firstIx, this]
    | succ i =>
      have h0 : ¬ p x := h 0 (by omega)
      have h1 := ih (i := i) (by simpa using hi) (fun j hj => by simpa using h (j + 1) (by omega)) (by simpa using hp)
      simp only [firstIx, h0, if_false, h1]
      rw [if_neg (by omega)]
      omega

def strT (s : ByteArray) : List T := [.str s]

theorem p14 (nn : Bool) (L : List ByteArray) (c st : Int) (hL : L.length ≤ 4096) : Pure En 14 [.one (.sl nn (L.map strT)), .one (.int .i64 c), .one (.int .i64 st)] [.one (.int .i64 (firstIx (isCall c st) L))] := by
  have hl : (L.map strT).length = L.length := List.length_map ..
  refine Pure.of_wp Try.func14 rfl (Nat.le_of_ble_eq_true rfl) ?_
  refine wSeq ?_
  refine wRegion ?_
  refine raI rfl rfl rfl rfl rfl ?_
  refine rNil ?_
  refine qSeq ?_
  refine wSeq ?_
  refine wSeq ?_
  refine wRegion ?_
  refine raI rfl rfl rfl rfl rfl ?_
  refine rNil ?_
  refine qSeq ?_
  refine wBlock ?_
  refine wLoop ?_
  refine loopGo (fun (a : Nat × Nat) => [.sl false nn (L.map strT), .int .i64 c, .int .i64 st, .unk, .unk, .unk, .unk, .int .i64 a.1]) (fun (a : Nat × Nat) => hp []) (fun (a : Nat × Nat) => a.2) (fun (a : Nat × Nat) => a.1 ≤ L.length ∧ (∀ j, j < a.1 → ¬ isCall c st (L.getD j ⟨#[]⟩)) ∧ 0 ≤ a.2) (fun (a : Nat × Nat) => L.length - a.1) (0, 0) ?_ ?_ ?_ ?_ ?_
  · exact ⟨Nat.zero_le _, all0, Nat.le_refl _⟩
  · (repeat first | exact LE.nil _ | refine LE.unk _ _ ?_ | refine LE.eq _ _ _ rfl ?_)
  · (repeat first | exact lessH0 | (refine lessHc ?_ ?_; (first | (first | rfl | assumption | ((simp (disch := omega) only [app, upd, hp, if_pos, if_neg]); first | rfl | assumption)) | fail)))
  · exact Nat.le_refl _
  intro ⟨i, m⟩ hI ih
  dsimp only at hI ⊢
  refine lStep ?_
  refine wSeq ?_
  refine wSeq ?_
  refine wRegion ?_
  refine rmI rfl rfl rfl rfl rfl ?_
  refine rmL rfl rfl rfl rfl rfl ?_
  refine rll rfl rfl rfl rfl rfl rfl ?_
  refine rlt rfl rfl rfl rfl rfl rfl ?_ ?_ <;> intro h2_3
  · refine rNil ?_
    refine qSeq ?_
    refine wT rfl ?_
    refine wSkip ?_
    refine qSeq ?_
    refine wSeq ?_
    refine wBlock ?_
    refine wSeq ?_
    refine wRegion ?_
    refine rmL rfl rfl rfl rfl rfl ?_
    refine rmI rfl rfl rfl rfl rfl ?_
    (apply rixl rfl rfl rfl rfl; (first | omega | assumption | (focus (simp; omega))); (first | rfl | assumption | (exact mapGet strT ⟨#[]⟩ (by omega))); rfl; rfl; rfl; rfl)
    refine rlic (v := .str _) rfl rfl rfl rfl rfl rfl rfl rfl ?_
    refine rcl (p28w (L.getD i ⟨#[]⟩)) rfl rfl rfl rfl rfl rfl ?_
    refine rmT rfl rfl rfl rfl rfl ?_
    refine rex rfl rfl rfl rfl rfl rfl ?_
    refine rexB rfl rfl rfl rfl rfl rfl ?_ ?_ <;> intro h4_7
    · refine ral rfl rfl rfl rfl rfl rfl ?_
      (apply rst rfl rfl rfl; (first | rfl | assumption | ((simp (disch := omega) only [app, upd, hp, if_pos, if_neg]); first | rfl | assumption)); rfl; rfl; rfl; rfl; rfl; (exact Nat.le_of_ble_eq_true rfl); rfl; rfl; rfl)
      refine raB rfl rfl rfl rfl rfl ?_
      refine rNil ?_
      refine qSeq ?_
      refine wSeq ?_
      refine wRegion ?_
      refine rmB rfl rfl rfl rfl rfl ?_
      refine rmB rfl rfl rfl rfl rfl ?_
      refine rfa (off := 0) (s := 1) (r := false) rfl rfl rfl (Nat.succ_ne_zero _) rfl rfl rfl ?_
      ((apply rlcB rfl rfl; (first | rfl | assumption | ((simp (disch := omega) only [app, upd, hp, if_pos, if_neg]); first | rfl | assumption)); rfl; rfl; rfl; rfl; rfl; rfl)) <;> intro h5_3
      · refine rnot (c := true) rfl rfl rfl rfl rfl ?_
        refine rpk (e := false) rfl rfl rfl rfl rfl rfl ?_
        refine rmB rfl rfl rfl rfl rfl ?_
        refine rSkip rfl rfl rfl ?_
        refine rSkip rfl rfl rfl ?_
        refine rSkip rfl rfl rfl ?_
        refine rSkip rfl rfl rfl ?_
        refine rSkip rfl rfl rfl ?_
        refine rpk (e := false) rfl rfl rfl rfl rfl rfl ?_
        refine rmB rfl rfl rfl rfl rfl ?_
        refine rSkip rfl rfl rfl ?_
        refine rSkip rfl rfl rfl ?_
        refine rSkip rfl rfl rfl ?_
        refine rSkip rfl rfl rfl ?_
        refine rSkip rfl rfl rfl ?_
        refine rpk (e := false) rfl rfl rfl rfl rfl rfl ?_
        refine rNil ?_
        refine qSeq ?_
        refine wF rfl ?_
        refine wSkip ?_
        refine qBlock ?_
        refine qSeq ?_
        refine wRegion ?_
        refine rmI rfl rfl rfl rfl rfl ?_
        refine raddF rfl rfl rfl ?_ ?_ rfl rfl rfl ?_
        · (first | omega | assumption | (focus (simp; omega)))
        · (first | omega | assumption | (focus (simp; omega)))
        refine raI rfl rfl rfl rfl rfl ?_
        refine rNil ?_
        refine qLoop ?_
        exact wlH (ih (i + 1, m + 1) ⟨by dsimp only; omega, allS hI.2.1 (fun hw => by obtain ⟨w1, w2, w3, w4⟩ := hw; first | exact of_decide_eq_false h4_7 w1 | exact absurd (w2.symm.trans h5_3) Bool.false_ne_true | omega | exact h5_11 w3 | exact h5_18 w4), by dsimp only; omega⟩ (by dsimp only; omega)) (by (repeat first | exact LE.nil _ | refine LE.unk _ _ ?_ | refine LE.eq _ _ _ rfl ?_)) (by (repeat first | exact lessH0 | (refine lessHc ?_ ?_; (first | (first | rfl | assumption | ((simp (disch := omega) only [app, upd, hp, if_pos, if_neg]); first | rfl | assumption)) | fail)))) (by dsimp only; omega)
      · refine rnot (c := false) rfl rfl rfl rfl rfl ?_
        refine rpk (e := true) rfl rfl rfl rfl rfl rfl ?_
        refine rmB rfl rfl rfl rfl rfl ?_
        refine rfa (off := 1) (s := 5) (r := true) rfl rfl rfl (Nat.succ_ne_zero _) rfl rfl rfl ?_
        refine rfa (off := 0) (s := 1) (r := false) rfl rfl rfl (Nat.succ_ne_zero _) rfl rfl rfl ?_
        (apply rlc (v := .int _ _) rfl rfl; (first | rfl | assumption | ((simp (disch := omega) only [app, upd, hp, if_pos, if_neg]); first | rfl | assumption)); rfl; rfl; rfl; rfl; rfl; rfl)
        refine rmI rfl rfl rfl rfl rfl ?_
        refine req rfl rfl rfl rfl rfl rfl ?_ ?_ <;> intro h5_11
        · refine rpk (e := true) rfl rfl rfl rfl rfl rfl ?_
          refine rmB rfl rfl rfl rfl rfl ?_
          refine rfa (off := 1) (s := 5) (r := true) rfl rfl rfl (Nat.succ_ne_zero _) rfl rfl rfl ?_
          refine rfa (off := 1) (s := 1) (r := false) rfl rfl rfl (Nat.succ_ne_zero _) rfl rfl rfl ?_
          (apply rlc (v := .int _ _) rfl rfl; (first | rfl | assumption | ((simp (disch := omega) only [app, upd, hp, if_pos, if_neg]); first | rfl | assumption)); rfl; rfl; rfl; rfl; rfl; rfl)
          refine rmI rfl rfl rfl rfl rfl ?_
          refine req rfl rfl rfl rfl rfl rfl ?_ ?_ <;> intro h5_18
          · refine rpk (e := true) rfl rfl rfl rfl rfl rfl ?_
            refine rNil ?_
            refine qSeq ?_
            refine wT rfl ?_
            refine wSeq ?_
            refine wRegion ?_
            refine rmI rfl rfl rfl rfl rfl ?_
            refine raI rfl rfl rfl rfl rfl ?_
            refine rNil ?_
            refine qSeq ?_
            refine wRet ?_
            refine qBlockR ?_
            refine qSeqR ?_
            refine qLoopR ?_
            refine qBlockR ?_
            refine qSeqR ?_
            first
              | (have e := firstIx_some (isCall c st) (L := L) (i := i) (by omega) hI.2.1 ⟨of_decide_eq_true h4_7, h5_3, by omega, by omega⟩; rw [e]; exact fin rfl rfl)
              | (have e := firstIx_none (isCall c st) (L := L) (fun j hj => hI.2.1 j (by omega)); rw [e]; exact fin rfl rfl)
          · refine rpk (e := false) rfl rfl rfl rfl rfl rfl ?_
            refine rNil ?_
            refine qSeq ?_
            refine wF rfl ?_
            refine wSkip ?_
            refine qBlock ?_
            refine qSeq ?_
            refine wRegion ?_
            refine rmI rfl rfl rfl rfl rfl ?_
            refine raddF rfl rfl rfl ?_ ?_ rfl rfl rfl ?_
            · (first | omega | assumption | (focus (simp; omega)))
            · (first | omega | assumption | (focus (simp; omega)))
            refine raI rfl rfl rfl rfl rfl ?_
            refine rNil ?_
            refine qLoop ?_
            exact wlH (ih (i + 1, m + 1) ⟨by dsimp only; omega, allS hI.2.1 (fun hw => by obtain ⟨w1, w2, w3, w4⟩ := hw; first | exact of_decide_eq_false h4_7 w1 | exact absurd (w2.symm.trans h5_3) Bool.false_ne_true | omega | exact h5_11 w3 | exact h5_18 w4), by dsimp only; omega⟩ (by dsimp only; omega)) (by (repeat first | exact LE.nil _ | refine LE.unk _ _ ?_ | refine LE.eq _ _ _ rfl ?_)) (by (repeat first | exact lessH0 | (refine lessHc ?_ ?_; (first | (first | rfl | assumption | ((simp (disch := omega) only [app, upd, hp, if_pos, if_neg]); first | rfl | assumption)) | fail)))) (by dsimp only; omega)
        · refine rpk (e := false) rfl rfl rfl rfl rfl rfl ?_
          refine rmB rfl rfl rfl rfl rfl ?_
          refine rSkip rfl rfl rfl ?_
          refine rSkip rfl rfl rfl ?_
          refine rSkip rfl rfl rfl ?_
          refine rSkip rfl rfl rfl ?_
          refine rSkip rfl rfl rfl ?_
          refine rpk (e := false) rfl rfl rfl rfl rfl rfl ?_
          refine rNil ?_
          refine qSeq ?_
          refine wF rfl ?_
          refine wSkip ?_
          refine qBlock ?_
          refine qSeq ?_
          refine wRegion ?_
          refine rmI rfl rfl rfl rfl rfl ?_
          refine raddF rfl rfl rfl ?_ ?_ rfl rfl rfl ?_
          · (first | omega | assumption | (focus (simp; omega)))
          · (first | omega | assumption | (focus (simp; omega)))
          refine raI rfl rfl rfl rfl rfl ?_
          refine rNil ?_
          refine qLoop ?_
          exact wlH (ih (i + 1, m + 1) ⟨by dsimp only; omega, allS hI.2.1 (fun hw => by obtain ⟨w1, w2, w3, w4⟩ := hw; first | exact of_decide_eq_false h4_7 w1 | exact absurd (w2.symm.trans h5_3) Bool.false_ne_true | omega | exact h5_11 w3 | exact h5_18 w4), by dsimp only; omega⟩ (by dsimp only; omega)) (by (repeat first | exact LE.nil _ | refine LE.unk _ _ ?_ | refine LE.eq _ _ _ rfl ?_)) (by (repeat first | exact lessH0 | (refine lessHc ?_ ?_; (first | (first | rfl | assumption | ((simp (disch := omega) only [app, upd, hp, if_pos, if_neg]); first | rfl | assumption)) | fail)))) (by dsimp only; omega)
    · refine ral rfl rfl rfl rfl rfl rfl ?_
      (apply rst rfl rfl rfl; (first | rfl | assumption | ((simp (disch := omega) only [app, upd, hp, if_pos, if_neg]); first | rfl | assumption)); rfl; rfl; rfl; rfl; rfl; (exact Nat.le_of_ble_eq_true rfl); rfl; rfl; rfl)
      refine raB rfl rfl rfl rfl rfl ?_
      refine rNil ?_
      refine qSeq ?_
      refine wSeq ?_
      refine wRegion ?_
      refine rmB rfl rfl rfl rfl rfl ?_
      refine rmB rfl rfl rfl rfl rfl ?_
      refine rSkip rfl rfl rfl ?_
      refine rSkip rfl rfl rfl ?_
      refine rSkip rfl rfl rfl ?_
      refine rpk (e := false) rfl rfl rfl rfl rfl rfl ?_
      refine rmB rfl rfl rfl rfl rfl ?_
      refine rSkip rfl rfl rfl ?_
      refine rSkip rfl rfl rfl ?_
      refine rSkip rfl rfl rfl ?_
      refine rSkip rfl rfl rfl ?_
      refine rSkip rfl rfl rfl ?_
      refine rpk (e := false) rfl rfl rfl rfl rfl rfl ?_
      refine rmB rfl rfl rfl rfl rfl ?_
      refine rSkip rfl rfl rfl ?_
      refine rSkip rfl rfl rfl ?_
      refine rSkip rfl rfl rfl ?_
      refine rSkip rfl rfl rfl ?_
      refine rSkip rfl rfl rfl ?_
      refine rpk (e := false) rfl rfl rfl rfl rfl rfl ?_
      refine rNil ?_
      refine qSeq ?_
      refine wF rfl ?_
      refine wSkip ?_
      refine qBlock ?_
      refine qSeq ?_
      refine wRegion ?_
      refine rmI rfl rfl rfl rfl rfl ?_
      refine raddF rfl rfl rfl ?_ ?_ rfl rfl rfl ?_
      · (first | omega | assumption | (focus (simp; omega)))
      · (first | omega | assumption | (focus (simp; omega)))
      refine raI rfl rfl rfl rfl rfl ?_
      refine rNil ?_
      refine qLoop ?_
      exact wlH (ih (i + 1, m + 1) ⟨by dsimp only; omega, allS hI.2.1 (fun hw => by obtain ⟨w1, w2, w3, w4⟩ := hw; first | exact of_decide_eq_false h4_7 w1 | exact absurd (w2.symm.trans h5_3) Bool.false_ne_true | omega | exact h5_11 w3 | exact h5_18 w4), by dsimp only; omega⟩ (by dsimp only; omega)) (by (repeat first | exact LE.nil _ | refine LE.unk _ _ ?_ | refine LE.eq _ _ _ rfl ?_)) (by (repeat first | exact lessH0 | (refine lessHc ?_ ?_; (first | (first | rfl | assumption | ((simp (disch := omega) only [app, upd, hp, if_pos, if_neg]); first | rfl | assumption)) | fail)))) (by dsimp only; omega)
  · refine rNil ?_
    refine qSeq ?_
    refine wF rfl ?_
    refine wExit ?_
    refine qSeqX ?_
    refine qLoopX ?_
    refine qBlockX ?_
    refine qSeq ?_
    refine wSeq ?_
    refine wRegion ?_
    refine raI rfl rfl rfl rfl rfl ?_
    refine rNil ?_
    refine qSeq ?_
    refine wRet ?_
    first
      | (have e := firstIx_some (isCall c st) (L := L) (i := i) (by omega) hI.2.1 ⟨of_decide_eq_true h4_7, h5_3, by omega, by omega⟩; rw [e]; exact fin rfl rfl)
      | (have e := firstIx_none (isCall c st) (L := L) (fun j hj => hI.2.1 j (by omega)); rw [e]; exact fin rfl rfl)
end Go.Proofs.Ytnkpjlpappmccaa
