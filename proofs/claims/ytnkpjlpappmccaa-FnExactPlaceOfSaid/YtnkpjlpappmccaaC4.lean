import Derived.Test.YtnkpjlpappmccaaC3
namespace Go.Proofs.Ytnkpjlpappmccaa
open Go.V
set_option linter.unusedVariables false
set_option maxRecDepth 20000
set_option linter.unusedSimpArgs false

theorem mapGet {α β : Type} (f : α → β) (d : α) {L : List α} {k : Nat} (h : k < L.length) : (L.map f)[k]? = some (f (L.getD k d)) := by
  simp [h]

def Rd0 : Rd := ⟨0, 0, ⟨#[]⟩⟩
def btT (nul : Bool) (r : Rq) (x : T) : List T := [.bool nul, .int .i64 r.cl, .int .i64 r.st, .int .i64 r.kd, .int .i64 r.le, .str r.nm, x]
def rdAt (rs : List Rd) (i : Nat) : Prop := (rs.getD i Rd0).OK ∧ (0 < i → (rs.getD (i - 1) Rd0).fr < (rs.getD i Rd0).fr)
def btOK (r : Rq) (rs : List Rd) : Prop := r.OK ∧ rs.length ≤ 7 ∧ ∀ i, i < rs.length → rdAt rs i
noncomputable instance (r : Rq) (rs : List Rd) : Decidable (btOK r rs) := Classical.propDecidable _

theorem p56 (nn : Bool) (r : Rq) (rs : List Rd) : Pure En 56 [.agg (btT false r (.sl nn (rs.map Rd.T)))] [.one (.bool (decide (btOK r rs)))] := by
  have hl : (rs.map Rd.T).length = rs.length := List.length_map ..
  refine Pure.of_wp Try.func56 rfl (Nat.le_of_ble_eq_true rfl) ?_
  refine wSeq ?_
  refine wRegion ?_
  refine rbx (u := .agg [.bool _, .int _ _, .int _ _, .int _ _, .int _ _, .str _, _]) rfl rfl rfl rfl rfl rfl rfl ?_
  refine raB rfl rfl rfl rfl rfl ?_
  refine rNil ?_
  refine qSeq ?_
  refine wSeq ?_
  refine wSeq ?_
  refine wRegion ?_
  refine rfa (off := 0) (s := 1) (r := false) rfl rfl rfl (Nat.succ_ne_zero _) rfl rfl rfl ?_
  refine rlc (v := .bool false) rfl rfl rfl rfl rfl rfl rfl rfl rfl ?_
  refine rNil ?_
  refine qSeq ?_
  refine wF rfl ?_
  refine wSkip ?_
  refine qSeq ?_
  refine wSeq ?_
  refine wSeq ?_
  refine wRegion ?_
  refine rfa (off := 1) (s := 5) (r := true) rfl rfl rfl (Nat.succ_ne_zero _) rfl rfl rfl ?_
  refine rlr (vs := [.int _ _, .int _ _, .int _ _, .int _ _, .str _]) rfl rfl rfl rfl rfl (Nat.le_of_ble_eq_true rfl) rfl rfl rfl rfl ?_
  refine rclP (p73 r) rfl rfl rfl rfl rfl rfl ?_ ?_ <;> intro h3_2
  · refine rnot (c := true) rfl rfl rfl rfl rfl ?_
    refine rmB rfl rfl rfl rfl rfl ?_
    refine rfa (off := 6) (s := 1) (r := false) rfl rfl rfl (Nat.succ_ne_zero _) rfl rfl rfl ?_
    refine rlc (v := .sl _ _ _) rfl rfl rfl rfl rfl rfl rfl rfl rfl ?_
    refine rll rfl rfl rfl rfl rfl rfl ?_
    refine rgt rfl rfl rfl rfl rfl rfl ?_ ?_ <;> intro h3_8
    · refine rpk (e := true) rfl rfl rfl rfl rfl rfl ?_
      refine rNil ?_
      refine qSeq ?_
      refine wT rfl ?_
      refine wSeq ?_
      refine wRegion ?_
      refine raB rfl rfl rfl rfl rfl ?_
      refine rNil ?_
      refine qSeq ?_
      refine wRet ?_
      refine qSeqR ?_
      first
        | exact finT rfl ⟨by assumption, by omega, fun j hj => hI.2 j (by omega)⟩
        | (refine finF rfl fun hw => ?_; obtain ⟨w1, w2, w3⟩ := hw; first | omega | exact h3_2 w1 | exact h8_5 (w3 i (by omega)).1 | (have e : ((i : Int) - 1).toNat = i - 1 := (by omega); have := (w3 i (by omega)).2 (by omega); rw [e] at h8_24; exact Int.not_le.mpr this h8_24))
    · refine rpk (e := false) rfl rfl rfl rfl rfl rfl ?_
      refine rNil ?_
      refine qSeq ?_
      refine wF rfl ?_
      refine wSkip ?_
      refine qSeq ?_
      refine wSeq ?_
      refine wSeq ?_
      refine wRegion ?_
      refine raI rfl rfl rfl rfl rfl ?_
      refine rNil ?_
      refine qSeq ?_
      refine wBlock ?_
      refine wLoop ?_
      refine loopGo0 (fun (i : Nat) => [.unk, .ptr 0 0 0, .unk, .int .i64 i]) (fun (i : Nat) => i ≤ rs.length ∧ ∀ j, j < i → rdAt rs j) (fun (i : Nat) => rs.length - i) 0 ?_ ?_ ?_
      · exact ⟨Nat.zero_le _, all0⟩
      · (repeat first | exact LE.nil _ | refine LE.unk _ _ ?_ | refine LE.eq _ _ _ rfl ?_)
      intro i hI ih
      refine lStep ?_
      refine wSeq ?_
      refine wSeq ?_
      refine wRegion ?_
      refine rmI rfl rfl rfl rfl rfl ?_
      refine rfa (off := 6) (s := 1) (r := false) rfl rfl rfl (Nat.succ_ne_zero _) rfl rfl rfl ?_
      refine rlc (v := .sl _ _ _) rfl rfl rfl rfl rfl rfl rfl rfl rfl ?_
      refine rll rfl rfl rfl rfl rfl rfl ?_
      refine rlt rfl rfl rfl rfl rfl rfl ?_ ?_ <;> intro h6_4
      · refine rNil ?_
        refine qSeq ?_
        refine wT rfl ?_
        refine wSkip ?_
        refine qSeq ?_
        refine wSeq ?_
        refine wBlock ?_
        refine wSeq ?_
        refine wDraw [0, 1, 0, 7, 15, 31, 63, 127, 255, 511, 1023, 2047, 4095, 2047, 10239, 32767, 65535, 131071, 2047, 264191, 2047, 1837055, 3934207, 8128511, 16777215, 33554431, 67108863] rfl (by decide +kernel) ?_
        refine dfa (off := 6) (s := 1) (r := false) rfl rfl rfl (Nat.succ_ne_zero _) rfl rfl rfl ?_
        refine dlc (v := .sl _ _ _) rfl rfl rfl rfl rfl rfl rfl rfl rfl ?_
        refine dmI rfl rfl rfl rfl rfl ?_
        (apply dixl rfl rfl rfl rfl; (first | omega | assumption | (focus (simp; omega))); (first | rfl | assumption | (exact mapGet Rd.T Rd0 (by omega))); rfl; rfl; rfl; rfl)
        refine dlir (vs := [.int _ _, .int _ _, .str _]) rfl rfl rfl (Nat.le_of_ble_eq_true rfl) rfl rfl rfl rfl ?_
        refine dclP (p74 _) rfl rfl rfl rfl rfl rfl ?_ ?_ <;> intro h8_5
        · refine dnot (c := true) rfl rfl rfl rfl rfl ?_
          refine dmB rfl rfl rfl rfl rfl ?_
          refine dmI rfl rfl rfl rfl rfl ?_
          refine dgt rfl rfl rfl rfl rfl rfl ?_ ?_ <;> intro h8_9
          · refine dmB rfl rfl rfl rfl rfl ?_
            refine dfa (off := 6) (s := 1) (r := false) rfl rfl rfl (Nat.succ_ne_zero _) rfl rfl rfl ?_
            refine dlc (v := .sl _ _ _) rfl rfl rfl rfl rfl rfl rfl rfl rfl ?_
            refine dmI rfl rfl rfl rfl rfl ?_
            refine dsubF rfl rfl rfl ?_ ?_ rfl rfl rfl ?_
            · (first | omega | assumption | (focus (simp; omega)))
            · (first | omega | assumption | (focus (simp; omega)))
            (apply dixl rfl rfl rfl rfl; (first | omega | assumption | (focus (simp; omega))); (first | rfl | assumption | (exact mapGet Rd.T Rd0 (by omega))); rfl; rfl; rfl; rfl)
            refine dfai (off := 0) (s := 1) (r := false) rfl rfl rfl (Nat.succ_ne_zero _) rfl rfl rfl rfl ?_
            refine dlic (v := .int _ _) rfl rfl rfl rfl rfl rfl rfl rfl ?_
            refine dfa (off := 6) (s := 1) (r := false) rfl rfl rfl (Nat.succ_ne_zero _) rfl rfl rfl ?_
            refine dlc (v := .sl _ _ _) rfl rfl rfl rfl rfl rfl rfl rfl rfl ?_
            refine dmI rfl rfl rfl rfl rfl ?_
            (apply dixl rfl rfl rfl rfl; (first | omega | assumption | (focus (simp; omega))); (first | rfl | assumption | (exact mapGet Rd.T Rd0 (by omega))); rfl; rfl; rfl; rfl)
            refine dfai (off := 0) (s := 1) (r := false) rfl rfl rfl (Nat.succ_ne_zero _) rfl rfl rfl rfl ?_
            refine dlic (v := .int _ _) rfl rfl rfl rfl rfl rfl rfl rfl ?_
            refine dge rfl rfl rfl rfl rfl rfl ?_ ?_ <;> intro h8_24
            · refine dpk (e := true) rfl rfl rfl rfl rfl rfl ?_
              refine dpk (e := true) rfl rfl rfl rfl rfl rfl ?_
              refine dNilR 27 [0, 0, 0, 0, 0, 0, 0, 1, 0, 0, 0, 0, 0, 0, 1, 0, 0, 0, 0, 0, 0, 0, 0, 0, 0, 1, 0] [] rfl rfl (by decide +kernel) trivial ?_
              refine qSeq ?_
              refine wT rfl ?_
              refine wSeq ?_
              refine wRegion ?_
              refine raB rfl rfl rfl rfl rfl ?_
              refine rNil ?_
              refine qSeq ?_
              refine wRet ?_
              refine qBlockR ?_
              refine qSeqR ?_
              refine qLoopR ?_
              refine qBlockR ?_
              refine qSeqR ?_
              first
                | exact finT rfl ⟨by assumption, by omega, fun j hj => hI.2 j (by omega)⟩
                | (refine finF rfl fun hw => ?_; obtain ⟨w1, w2, w3⟩ := hw; first | omega | exact h3_2 w1 | exact h8_5 (w3 i (by omega)).1 | (have e : ((i : Int) - 1).toNat = i - 1 := (by omega); have := (w3 i (by omega)).2 (by omega); rw [e] at h8_24; exact Int.not_le.mpr this h8_24))
            · refine dpk (e := false) rfl rfl rfl rfl rfl rfl ?_
              refine dpk (e := false) rfl rfl rfl rfl rfl rfl ?_
              refine dNilR 27 [0, 0, 0, 0, 0, 0, 0, 1, 0, 0, 0, 0, 0, 0, 1, 0, 0, 0, 0, 0, 0, 0, 0, 0, 0, 1, 0] [] rfl rfl (by decide +kernel) trivial ?_
              refine qSeq ?_
              refine wF rfl ?_
              refine wSkip ?_
              refine qBlock ?_
              refine qSeq ?_
              refine wRegion ?_
              refine rmI rfl rfl rfl rfl rfl ?_
              refine raddF rfl rfl rfl ?_ ?_ rfl rfl rfl ?_
              · (first | omega | assumption | (focus (simp; omega)))
              · (first | omega | assumption | (focus (simp; omega)))
              refine raI rfl rfl rfl rfl rfl ?_
              refine rNil ?_
              refine qLoop ?_
              exact wlN (ih (i + 1) ⟨by omega, allS hI.2 ⟨h8_5, fun h0 => by first | omega | (have e : ((i : Int) - 1).toNat = i - 1 := (by omega); rw [e] at h8_24; exact Int.not_le.mp h8_24)⟩⟩ (by omega)) (by (repeat first | exact LE.nil _ | refine LE.unk _ _ ?_ | refine LE.eq _ _ _ rfl ?_))
          · refine dmB rfl rfl rfl rfl rfl ?_
            refine dSkip rfl rfl rfl ?_
            refine dSkip rfl rfl rfl ?_
            refine dSkip rfl rfl rfl ?_
            refine dSkip rfl rfl rfl ?_
            refine dSkip rfl rfl rfl ?_
            refine dSkip rfl rfl rfl ?_
            refine dSkip rfl rfl rfl ?_
            refine dSkip rfl rfl rfl ?_
            refine dSkip rfl rfl rfl ?_
            refine dSkip rfl rfl rfl ?_
            refine dSkip rfl rfl rfl ?_
            refine dSkip rfl rfl rfl ?_
            refine dSkip rfl rfl rfl ?_
            refine dSkip rfl rfl rfl ?_
            refine dpk (e := false) rfl rfl rfl rfl rfl rfl ?_
            refine dpk (e := false) rfl rfl rfl rfl rfl rfl ?_
            refine dNilR 27 [0, 0, 0, 0, 0, 0, 0, 0, 0, 0, 0, 0, 0, 0, 0, 0, 0, 0, 0, 0, 0, 0, 0, 0, 0, 1, 0] [] rfl rfl (by decide +kernel) trivial ?_
            refine qSeq ?_
            refine wF rfl ?_
            refine wSkip ?_
            refine qBlock ?_
            refine qSeq ?_
            refine wRegion ?_
            refine rmI rfl rfl rfl rfl rfl ?_
            refine raddF rfl rfl rfl ?_ ?_ rfl rfl rfl ?_
            · (first | omega | assumption | (focus (simp; omega)))
            · (first | omega | assumption | (focus (simp; omega)))
            refine raI rfl rfl rfl rfl rfl ?_
            refine rNil ?_
            refine qLoop ?_
            exact wlN (ih (i + 1) ⟨by omega, allS hI.2 ⟨h8_5, fun h0 => by first | omega | (have e : ((i : Int) - 1).toNat = i - 1 := (by omega); rw [e] at h8_24; exact Int.not_le.mp h8_24)⟩⟩ (by omega)) (by (repeat first | exact LE.nil _ | refine LE.unk _ _ ?_ | refine LE.eq _ _ _ rfl ?_))
        · refine dnot (c := false) rfl rfl rfl rfl rfl ?_
          refine dmB rfl rfl rfl rfl rfl ?_
          refine dSkip rfl rfl rfl ?_
          refine dSkip rfl rfl rfl ?_
          refine dSkip rfl rfl rfl ?_
          refine dSkip rfl rfl rfl ?_
          refine dSkip rfl rfl rfl ?_
          refine dSkip rfl rfl rfl ?_
          refine dSkip rfl rfl rfl ?_
          refine dSkip rfl rfl rfl ?_
          refine dSkip rfl rfl rfl ?_
          refine dSkip rfl rfl rfl ?_
          refine dSkip rfl rfl rfl ?_
          refine dSkip rfl rfl rfl ?_
          refine dSkip rfl rfl rfl ?_
          refine dSkip rfl rfl rfl ?_
          refine dSkip rfl rfl rfl ?_
          refine dSkip rfl rfl rfl ?_
          refine dSkip rfl rfl rfl ?_
          refine dSkip rfl rfl rfl ?_
          refine dpk (e := true) rfl rfl rfl rfl rfl rfl ?_
          refine dNilR 27 [0, 0, 0, 0, 0, 0, 0, 0, 0, 0, 0, 0, 0, 0, 0, 0, 0, 0, 0, 0, 0, 0, 0, 0, 0, 1, 0] [] rfl rfl (by decide +kernel) trivial ?_
          refine qSeq ?_
          refine wT rfl ?_
          refine wSeq ?_
          refine wRegion ?_
          refine raB rfl rfl rfl rfl rfl ?_
          refine rNil ?_
          refine qSeq ?_
          refine wRet ?_
          refine qBlockR ?_
          refine qSeqR ?_
          refine qLoopR ?_
          refine qBlockR ?_
          refine qSeqR ?_
          first
            | exact finT rfl ⟨by assumption, by omega, fun j hj => hI.2 j (by omega)⟩
            | (refine finF rfl fun hw => ?_; obtain ⟨w1, w2, w3⟩ := hw; first | omega | exact h3_2 w1 | exact h8_5 (w3 i (by omega)).1 | (have e : ((i : Int) - 1).toNat = i - 1 := (by omega); have := (w3 i (by omega)).2 (by omega); rw [e] at h8_24; exact Int.not_le.mpr this h8_24))
      · refine rNil ?_
        refine qSeq ?_
        refine wF rfl ?_
        refine wExit ?_
        refine qSeqX ?_
        refine qLoopX ?_
        refine qBlockX ?_
        refine qSeq ?_
        refine wSeq ?_
        refine wRegion ?_
        refine raB rfl rfl rfl rfl rfl ?_
        refine rNil ?_
        refine qSeq ?_
        refine wRet ?_
        first
          | exact finT rfl ⟨by assumption, by omega, fun j hj => hI.2 j (by omega)⟩
          | (refine finF rfl fun hw => ?_; obtain ⟨w1, w2, w3⟩ := hw; first | omega | exact h3_2 w1 | exact h8_5 (w3 i (by omega)).1 | (have e : ((i : Int) - 1).toNat = i - 1 := (by omega); have := (w3 i (by omega)).2 (by omega); rw [e] at h8_24; exact Int.not_le.mpr this h8_24))
  · refine rnot (c := false) rfl rfl rfl rfl rfl ?_
    refine rmB rfl rfl rfl rfl rfl ?_
    refine rSkip rfl rfl rfl ?_
    refine rSkip rfl rfl rfl ?_
    refine rSkip rfl rfl rfl ?_
    refine rSkip rfl rfl rfl ?_
    refine rpk (e := true) rfl rfl rfl rfl rfl rfl ?_
    refine rNil ?_
    refine qSeq ?_
    refine wT rfl ?_
    refine wSeq ?_
    refine wRegion ?_
    refine raB rfl rfl rfl rfl rfl ?_
    refine rNil ?_
    refine qSeq ?_
    refine wRet ?_
    refine qSeqR ?_
    first
      | exact finT rfl ⟨by assumption, by omega, fun j hj => hI.2 j (by omega)⟩
      | (refine finF rfl fun hw => ?_; obtain ⟨w1, w2, w3⟩ := hw; first | omega | exact h3_2 w1 | exact h8_5 (w3 i (by omega)).1 | (have e : ((i : Int) - 1).toNat = i - 1 := (by omega); have := (w3 i (by omega)).2 (by omega); rw [e] at h8_24; exact Int.not_le.mpr this h8_24))
theorem p61 (nn : Bool) (r : Rq) (rs : List Rd) : Pure En 61 [.agg (btT false r (.sl nn (rs.map Rd.T)))] [.one (.bool (decide (btOK r rs)))] := by
  have hl : (rs.map Rd.T).length = rs.length := List.length_map ..
  refine Pure.of_wp Try.func61 rfl (Nat.le_of_ble_eq_true rfl) ?_
  refine wSeq ?_
  refine wRegion ?_
  refine rbx (u := .agg [.bool _, .int _ _, .int _ _, .int _ _, .int _ _, .str _, _]) rfl rfl rfl rfl rfl rfl rfl ?_
  refine raB rfl rfl rfl rfl rfl ?_
  refine rNil ?_
  refine qSeq ?_
  refine wSeq ?_
  refine wSeq ?_
  refine wRegion ?_
  refine rfa (off := 0) (s := 1) (r := false) rfl rfl rfl (Nat.succ_ne_zero _) rfl rfl rfl ?_
  (apply rlc (v := .bool false) rfl rfl; (first | rfl | assumption | ((simp (disch := omega) only [app, upd, hp, if_pos, if_neg]); first | rfl | assumption)); rfl; rfl; rfl; rfl; rfl; rfl)
  refine rNil ?_
  refine qSeq ?_
  refine wF rfl ?_
  refine wSkip ?_
  refine qSeq ?_
  refine wSeq ?_
  refine wSeq ?_
  refine wRegion ?_
  refine rfa (off := 1) (s := 5) (r := true) rfl rfl rfl (Nat.succ_ne_zero _) rfl rfl rfl ?_
  (apply rlr (vs := [.int _ _, .int _ _, .int _ _, .int _ _, .str _]) rfl rfl; (first | rfl | assumption | ((simp (disch := omega) only [app, upd, hp, if_pos, if_neg]); first | rfl | assumption)); rfl; rfl; (exact Nat.le_of_ble_eq_true rfl); rfl; rfl; rfl; rfl)
  refine rclP (p26 r) rfl rfl rfl rfl rfl rfl ?_ ?_ <;> intro h3_2
  · refine rnot (c := true) rfl rfl rfl rfl rfl ?_
    refine rmB rfl rfl rfl rfl rfl ?_
    refine rfa (off := 6) (s := 1) (r := false) rfl rfl rfl (Nat.succ_ne_zero _) rfl rfl rfl ?_
    (apply rlc (v := .sl _ _ _) rfl rfl; (first | rfl | assumption | ((simp (disch := omega) only [app, upd, hp, if_pos, if_neg]); first | rfl | assumption)); rfl; rfl; rfl; rfl; rfl; rfl)
    refine rll rfl rfl rfl rfl rfl rfl ?_
    refine rgt rfl rfl rfl rfl rfl rfl ?_ ?_ <;> intro h3_8
    · refine rpk (e := true) rfl rfl rfl rfl rfl rfl ?_
      refine rNil ?_
      refine qSeq ?_
      refine wT rfl ?_
      refine wSeq ?_
      refine wRegion ?_
      refine raB rfl rfl rfl rfl rfl ?_
      refine rNil ?_
      refine qSeq ?_
      refine wRet ?_
      refine qSeqR ?_
      first
        | exact finT rfl ⟨by assumption, by omega, fun j hj => hI.2.1 j (by omega)⟩
        | (refine finF rfl fun hw => ?_; obtain ⟨w1, w2, w3⟩ := hw; first | omega | exact h3_2 w1 | exact h8_1 (w3 i (by omega)).1 | (have e : ((i : Int) - 1).toNat = i - 1 := (by omega); have := (w3 i (by omega)).2 (by omega); rw [e] at h8_16; exact Int.not_le.mpr this h8_16))
    · refine rpk (e := false) rfl rfl rfl rfl rfl rfl ?_
      refine rNil ?_
      refine qSeq ?_
      refine wF rfl ?_
      refine wSkip ?_
      refine qSeq ?_
      refine wSeq ?_
      refine wSeq ?_
      refine wRegion ?_
      refine rfa (off := 6) (s := 1) (r := false) rfl rfl rfl (Nat.succ_ne_zero _) rfl rfl rfl ?_
      (apply rlc (v := .sl _ _ _) rfl rfl; (first | rfl | assumption | ((simp (disch := omega) only [app, upd, hp, if_pos, if_neg]); first | rfl | assumption)); rfl; rfl; rfl; rfl; rfl; rfl)
      refine rll rfl rfl rfl rfl rfl rfl ?_
      refine rmI rfl rfl rfl rfl rfl ?_
      refine rNil ?_
      refine qSeq ?_
      refine wBlock ?_
      refine wLoop ?_
      refine loopGo (fun (a : Nat × Nat) => [.unk, .ptr 0 0 0, .unk, .unk, .unk, .unk, .unk, .unk, .unk, .unk, .unk, .unk, .unk, .unk, .unk, .unk, .unk, .unk, .unk, .unk, .unk, .unk, .unk, .unk, .unk, .unk, .unk, .unk, .sl false nn (rs.map Rd.T), .int .i64 (rs.map Rd.T).length, .int .i64 a.1]) (fun (a : Nat × Nat) => hp [(0, ⟨[(btT false r (.sl nn (rs.map Rd.T))).map (T.toV false)], 7, 67⟩)]) (fun (a : Nat × Nat) => a.2) (fun (a : Nat × Nat) => a.1 ≤ rs.length ∧ (∀ j, j < a.1 → rdAt rs j) ∧ 1 ≤ a.2) (fun (a : Nat × Nat) => rs.length - a.1) (0, 1) ?_ ?_ ?_ ?_ ?_
      · exact ⟨Nat.zero_le _, all0, Nat.le_refl _⟩
      · (repeat first | exact LE.nil _ | refine LE.unk _ _ ?_ | refine LE.eq _ _ _ rfl ?_)
      · (repeat first | exact lessH0 | (refine lessHc ?_ ?_; (first | (first | rfl | assumption | ((simp (disch := omega) only [app, upd, hp, if_pos, if_neg]); first | rfl | assumption)) | fail)))
      · exact Nat.le_refl _
      intro ⟨i, m⟩ hI ih
      dsimp only at hI ⊢
      refine lStep ?_
      refine wSeq ?_
      refine wRegion ?_
      refine rlt rfl rfl rfl rfl rfl rfl ?_ ?_ <;> intro h6_0
      · refine rNil ?_
        refine qSeq ?_
        refine wSeq ?_
        refine wT rfl ?_
        refine wSkip ?_
        refine qSeq ?_
        refine wSeq ?_
        refine wBlock ?_
        refine wSeq ?_
        refine wRegion ?_
        refine rmI rfl rfl rfl rfl rfl ?_
        (apply rixl rfl rfl rfl rfl; (first | omega | assumption | (focus (simp; omega))); (first | rfl | assumption | (exact mapGet Rd.T Rd0 (by omega))); rfl; rfl; rfl; rfl)
        refine rlir (vs := [.int _ _, .int _ _, .str _]) rfl rfl rfl (Nat.le_of_ble_eq_true rfl) rfl rfl rfl rfl ?_
        refine ral rfl rfl rfl rfl rfl rfl ?_
        refine raI rfl rfl rfl rfl rfl ?_
        (apply rst rfl rfl rfl; (first | rfl | assumption | ((simp (disch := omega) only [app, upd, hp, if_pos, if_neg]); first | rfl | assumption)); rfl; rfl; rfl; rfl; rfl; (exact Nat.le_of_ble_eq_true rfl); rfl; rfl; rfl)
        refine rNil ?_
        refine qSeq ?_
        refine wSeq ?_
        refine wDraw [0, 1, 3, 7, 15, 31, 63, 127, 255, 127, 639, 2047, 4095, 8191, 127, 16511, 65535, 131071, 262143] rfl (by decide +kernel) ?_
        (apply dlr (vs := [.int _ _, .int _ _, .str _]) rfl rfl; (first | rfl | assumption | ((simp (disch := omega) only [app, upd, hp, if_pos, if_neg]); first | rfl | assumption)); rfl; rfl; (exact Nat.le_of_ble_eq_true rfl); rfl; rfl; rfl; rfl)
        refine dclP (p76 _) rfl rfl rfl rfl rfl rfl ?_ ?_ <;> intro h8_1
        · refine dnot (c := true) rfl rfl rfl rfl rfl ?_
          refine dmB rfl rfl rfl rfl rfl ?_
          refine dmI rfl rfl rfl rfl rfl ?_
          refine dgt rfl rfl rfl rfl rfl rfl ?_ ?_ <;> intro h8_5
          · refine dmB rfl rfl rfl rfl rfl ?_
            refine dfa (off := 6) (s := 1) (r := false) rfl rfl rfl (Nat.succ_ne_zero _) rfl rfl rfl ?_
            (apply dlc (v := .sl _ _ _) rfl rfl; (first | rfl | assumption | ((simp (disch := omega) only [app, upd, hp, if_pos, if_neg]); first | rfl | assumption)); rfl; rfl; rfl; rfl; rfl; rfl)
            refine dmI rfl rfl rfl rfl rfl ?_
            refine dsubF rfl rfl rfl ?_ ?_ rfl rfl rfl ?_
            · (first | omega | assumption | (focus (simp; omega)))
            · (first | omega | assumption | (focus (simp; omega)))
            (apply dixl rfl rfl rfl rfl; (first | omega | assumption | (focus (simp; omega))); (first | rfl | assumption | (exact mapGet Rd.T Rd0 (by omega))); rfl; rfl; rfl; rfl)
            refine dfai (off := 0) (s := 1) (r := false) rfl rfl rfl (Nat.succ_ne_zero _) rfl rfl rfl rfl ?_
            refine dlic (v := .int _ _) rfl rfl rfl rfl rfl rfl rfl rfl ?_
            refine dfa (off := 0) (s := 1) (r := false) rfl rfl rfl (Nat.succ_ne_zero _) rfl rfl rfl ?_
            (apply dlc (v := .int _ _) rfl rfl; (first | rfl | assumption | ((simp (disch := omega) only [app, upd, hp, if_pos, if_neg]); first | rfl | assumption)); rfl; rfl; rfl; rfl; rfl; rfl)
            refine dge rfl rfl rfl rfl rfl rfl ?_ ?_ <;> intro h8_16
            · refine dpk (e := true) rfl rfl rfl rfl rfl rfl ?_
              refine dpk (e := true) rfl rfl rfl rfl rfl rfl ?_
              refine dNilR 19 [0, 0, 0, 1, 0, 0, 0, 0, 0, 0, 1, 0, 0, 0, 0, 0, 0, 0, 1] [] rfl rfl (by decide +kernel) trivial ?_
              refine qSeq ?_
              refine wT rfl ?_
              refine wSeq ?_
              refine wRegion ?_
              refine raB rfl rfl rfl rfl rfl ?_
              refine rNil ?_
              refine qSeq ?_
              refine wRet ?_
              refine qBlockR ?_
              refine qSeqR ?_
              refine qLoopR ?_
              refine qBlockR ?_
              refine qSeqR ?_
              first
                | exact finT rfl ⟨by assumption, by omega, fun j hj => hI.2.1 j (by omega)⟩
                | (refine finF rfl fun hw => ?_; obtain ⟨w1, w2, w3⟩ := hw; first | omega | exact h3_2 w1 | exact h8_1 (w3 i (by omega)).1 | (have e : ((i : Int) - 1).toNat = i - 1 := (by omega); have := (w3 i (by omega)).2 (by omega); rw [e] at h8_16; exact Int.not_le.mpr this h8_16))
            · refine dpk (e := false) rfl rfl rfl rfl rfl rfl ?_
              refine dpk (e := false) rfl rfl rfl rfl rfl rfl ?_
              refine dNilR 19 [0, 0, 0, 1, 0, 0, 0, 0, 0, 0, 1, 0, 0, 0, 0, 0, 0, 0, 1] [] rfl rfl (by decide +kernel) trivial ?_
              refine qSeq ?_
              refine wF rfl ?_
              refine wSkip ?_
              refine qBlock ?_
              refine qSeq ?_
              refine wRegion ?_
              refine raddF rfl rfl rfl ?_ ?_ rfl rfl rfl ?_
              · (first | omega | assumption | (focus (simp; omega)))
              · (first | omega | assumption | (focus (simp; omega)))
              refine rmI rfl rfl rfl rfl rfl ?_
              refine rNil ?_
              refine qLoop ?_
              exact wlH (ih (i + 1, m + 1) ⟨by omega, allS hI.2.1 ⟨h8_1, fun h0 => by first | omega | (have e : ((i : Int) - 1).toNat = i - 1 := (by omega); rw [e] at h8_16; exact Int.not_le.mp h8_16)⟩, by omega⟩ (by dsimp only; omega)) (by (repeat first | exact LE.nil _ | refine LE.unk _ _ ?_ | refine LE.eq _ _ _ rfl ?_)) (by (repeat first | exact lessH0 | (refine lessHc ?_ ?_; (first | (first | rfl | assumption | ((simp (disch := omega) only [app, upd, hp, if_pos, if_neg]); first | rfl | assumption)) | fail)))) (by dsimp only; omega)
          · refine dmB rfl rfl rfl rfl rfl ?_
            refine dSkip rfl rfl rfl ?_
            refine dSkip rfl rfl rfl ?_
            refine dSkip rfl rfl rfl ?_
            refine dSkip rfl rfl rfl ?_
            refine dSkip rfl rfl rfl ?_
            refine dSkip rfl rfl rfl ?_
            refine dSkip rfl rfl rfl ?_
            refine dSkip rfl rfl rfl ?_
            refine dSkip rfl rfl rfl ?_
            refine dSkip rfl rfl rfl ?_
            refine dpk (e := false) rfl rfl rfl rfl rfl rfl ?_
            refine dpk (e := false) rfl rfl rfl rfl rfl rfl ?_
            refine dNilR 19 [0, 0, 0, 0, 0, 0, 0, 0, 0, 0, 0, 0, 0, 0, 0, 0, 0, 0, 1] [] rfl rfl (by decide +kernel) trivial ?_
            refine qSeq ?_
            refine wF rfl ?_
            refine wSkip ?_
            refine qBlock ?_
            refine qSeq ?_
            refine wRegion ?_
            refine raddF rfl rfl rfl ?_ ?_ rfl rfl rfl ?_
            · (first | omega | assumption | (focus (simp; omega)))
            · (first | omega | assumption | (focus (simp; omega)))
            refine rmI rfl rfl rfl rfl rfl ?_
            refine rNil ?_
            refine qLoop ?_
            exact wlH (ih (i + 1, m + 1) ⟨by omega, allS hI.2.1 ⟨h8_1, fun h0 => by first | omega | (have e : ((i : Int) - 1).toNat = i - 1 := (by omega); rw [e] at h8_16; exact Int.not_le.mp h8_16)⟩, by omega⟩ (by dsimp only; omega)) (by (repeat first | exact LE.nil _ | refine LE.unk _ _ ?_ | refine LE.eq _ _ _ rfl ?_)) (by (repeat first | exact lessH0 | (refine lessHc ?_ ?_; (first | (first | rfl | assumption | ((simp (disch := omega) only [app, upd, hp, if_pos, if_neg]); first | rfl | assumption)) | fail)))) (by dsimp only; omega)
        · refine dnot (c := false) rfl rfl rfl rfl rfl ?_
          refine dmB rfl rfl rfl rfl rfl ?_
          refine dSkip rfl rfl rfl ?_
          refine dSkip rfl rfl rfl ?_
          refine dSkip rfl rfl rfl ?_
          refine dSkip rfl rfl rfl ?_
          refine dSkip rfl rfl rfl ?_
          refine dSkip rfl rfl rfl ?_
          refine dSkip rfl rfl rfl ?_
          refine dSkip rfl rfl rfl ?_
          refine dSkip rfl rfl rfl ?_
          refine dSkip rfl rfl rfl ?_
          refine dSkip rfl rfl rfl ?_
          refine dSkip rfl rfl rfl ?_
          refine dSkip rfl rfl rfl ?_
          refine dSkip rfl rfl rfl ?_
          refine dpk (e := true) rfl rfl rfl rfl rfl rfl ?_
          refine dNilR 19 [0, 0, 0, 0, 0, 0, 0, 0, 0, 0, 0, 0, 0, 0, 0, 0, 0, 0, 1] [] rfl rfl (by decide +kernel) trivial ?_
          refine qSeq ?_
          refine wT rfl ?_
          refine wSeq ?_
          refine wRegion ?_
          refine raB rfl rfl rfl rfl rfl ?_
          refine rNil ?_
          refine qSeq ?_
          refine wRet ?_
          refine qBlockR ?_
          refine qSeqR ?_
          refine qLoopR ?_
          refine qBlockR ?_
          refine qSeqR ?_
          first
            | exact finT rfl ⟨by assumption, by omega, fun j hj => hI.2.1 j (by omega)⟩
            | (refine finF rfl fun hw => ?_; obtain ⟨w1, w2, w3⟩ := hw; first | omega | exact h3_2 w1 | exact h8_1 (w3 i (by omega)).1 | (have e : ((i : Int) - 1).toNat = i - 1 := (by omega); have := (w3 i (by omega)).2 (by omega); rw [e] at h8_16; exact Int.not_le.mpr this h8_16))
      · refine rNil ?_
        refine qSeq ?_
        refine wSeq ?_
        refine wF rfl ?_
        refine wExit ?_
        refine qSeqX ?_
        refine qLoopX ?_
        refine qBlockX ?_
        refine qSeq ?_
        refine wSeq ?_
        refine wRegion ?_
        refine raB rfl rfl rfl rfl rfl ?_
        refine rNil ?_
        refine qSeq ?_
        refine wRet ?_
        first
          | exact finT rfl ⟨by assumption, by omega, fun j hj => hI.2.1 j (by omega)⟩
          | (refine finF rfl fun hw => ?_; obtain ⟨w1, w2, w3⟩ := hw; first | omega | exact h3_2 w1 | exact h8_1 (w3 i (by omega)).1 | (have e : ((i : Int) - 1).toNat = i - 1 := (by omega); have := (w3 i (by omega)).2 (by omega); rw [e] at h8_16; exact Int.not_le.mpr this h8_16))
  · refine rnot (c := false) rfl rfl rfl rfl rfl ?_
    refine rmB rfl rfl rfl rfl rfl ?_
    refine rSkip rfl rfl rfl ?_
    refine rSkip rfl rfl rfl ?_
    refine rSkip rfl rfl rfl ?_
    refine rSkip rfl rfl rfl ?_
    refine rpk (e := true) rfl rfl rfl rfl rfl rfl ?_
    refine rNil ?_
    refine qSeq ?_
    refine wT rfl ?_
    refine wSeq ?_
    refine wRegion ?_
    refine raB rfl rfl rfl rfl rfl ?_
    refine rNil ?_
    refine qSeq ?_
    refine wRet ?_
    refine qSeqR ?_
    first
      | exact finT rfl ⟨by assumption, by omega, fun j hj => hI.2.1 j (by omega)⟩
      | (refine finF rfl fun hw => ?_; obtain ⟨w1, w2, w3⟩ := hw; first | omega | exact h3_2 w1 | exact h8_1 (w3 i (by omega)).1 | (have e : ((i : Int) - 1).toNat = i - 1 := (by omega); have := (w3 i (by omega)).2 (by omega); rw [e] at h8_16; exact Int.not_le.mpr this h8_16))
end Go.Proofs.Ytnkpjlpappmccaa
