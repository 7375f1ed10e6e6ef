import Derived.Test.YtknnniaoboaghaaB3
import Derived.Lib.Bytealg
namespace Go.Proofs.Ytknnniaoboaghaa
open Go.V
set_option linter.unusedVariables false
set_option linter.unusedSimpArgs false
set_option maxRecDepth 20000
set_option maxHeartbeats 4000000

theorem p47 (a : An) : Pure En 79 [.agg a.T] [.one (.bool (decide a.OK))] := by
  refine Pure.of_wp Try.func79 rfl (Nat.le_of_ble_eq_true rfl) ?_
  refine wSeq ?_
  refine wRegion ?_
  refine rbx (u := .agg [.int _ _, .int _ _, .int _ _, .int _ _]) rfl rfl rfl rfl rfl rfl rfl ?_
  refine raB rfl rfl rfl rfl rfl ?_
  refine rNil ?_
  refine qSeq ?_
  refine wSeq ?_
  refine wRegion ?_
  refine rfa (off := 0) (s := 1) (r := false) rfl rfl rfl (Nat.succ_ne_zero _) rfl rfl rfl ?_
  refine rlc (v := .int _ _) rfl rfl rfl rfl rfl rfl rfl rfl rfl ?_
  refine rclP (p45 _ _ _) rfl rfl rfl rfl rfl rfl ?_ ?_ <;> intro h1_2
  · refine rmB rfl rfl rfl rfl rfl ?_
    refine rfa (off := 1) (s := 1) (r := false) rfl rfl rfl (Nat.succ_ne_zero _) rfl rfl rfl ?_
    refine rlc (v := .int _ _) rfl rfl rfl rfl rfl rfl rfl rfl rfl ?_
    refine rclP (p45 _ _ _) rfl rfl rfl rfl rfl rfl ?_ ?_ <;> intro h1_6
    · refine rpk (e := true) rfl rfl rfl rfl rfl rfl ?_
      refine rmB rfl rfl rfl rfl rfl ?_
      refine rfa (off := 2) (s := 1) (r := false) rfl rfl rfl (Nat.succ_ne_zero _) rfl rfl rfl ?_
      refine rlc (v := .int _ _) rfl rfl rfl rfl rfl rfl rfl rfl rfl ?_
      refine rclP (p45 _ _ _) rfl rfl rfl rfl rfl rfl ?_ ?_ <;> intro h1_11
      · refine rpk (e := true) rfl rfl rfl rfl rfl rfl ?_
        refine rmB rfl rfl rfl rfl rfl ?_
        refine rfa (off := 3) (s := 1) (r := false) rfl rfl rfl (Nat.succ_ne_zero _) rfl rfl rfl ?_
        refine rlc (v := .int _ _) rfl rfl rfl rfl rfl rfl rfl rfl rfl ?_
        refine rclP (p45 _ _ _) rfl rfl rfl rfl rfl rfl ?_ ?_ <;> intro h1_16
        · refine rpk (e := true) rfl rfl rfl rfl rfl rfl ?_
          refine raB rfl rfl rfl rfl rfl ?_
          refine rNil ?_
          refine qSeq ?_
          refine wRet ?_
          first | (refine finT rfl ?_; unfold An.OK; omega) | (refine finF rfl ?_; unfold An.OK; omega)
        · refine rpk (e := false) rfl rfl rfl rfl rfl rfl ?_
          refine raB rfl rfl rfl rfl rfl ?_
          refine rNil ?_
          refine qSeq ?_
          refine wRet ?_
          first | (refine finT rfl ?_; unfold An.OK; omega) | (refine finF rfl ?_; unfold An.OK; omega)
      · refine rpk (e := false) rfl rfl rfl rfl rfl rfl ?_
        refine rmB rfl rfl rfl rfl rfl ?_
        refine rSkip rfl rfl rfl ?_
        refine rSkip rfl rfl rfl ?_
        refine rSkip rfl rfl rfl ?_
        refine rpk (e := false) rfl rfl rfl rfl rfl rfl ?_
        refine raB rfl rfl rfl rfl rfl ?_
        refine rNil ?_
        refine qSeq ?_
        refine wRet ?_
        first | (refine finT rfl ?_; unfold An.OK; omega) | (refine finF rfl ?_; unfold An.OK; omega)
    · refine rpk (e := false) rfl rfl rfl rfl rfl rfl ?_
      refine rmB rfl rfl rfl rfl rfl ?_
      refine rSkip rfl rfl rfl ?_
      refine rSkip rfl rfl rfl ?_
      refine rSkip rfl rfl rfl ?_
      refine rpk (e := false) rfl rfl rfl rfl rfl rfl ?_
      refine rmB rfl rfl rfl rfl rfl ?_
      refine rSkip rfl rfl rfl ?_
      refine rSkip rfl rfl rfl ?_
      refine rSkip rfl rfl rfl ?_
      refine rpk (e := false) rfl rfl rfl rfl rfl rfl ?_
      refine raB rfl rfl rfl rfl rfl ?_
      refine rNil ?_
      refine qSeq ?_
      refine wRet ?_
      first | (refine finT rfl ?_; unfold An.OK; omega) | (refine finF rfl ?_; unfold An.OK; omega)
  · refine rmB rfl rfl rfl rfl rfl ?_
    refine rSkip rfl rfl rfl ?_
    refine rSkip rfl rfl rfl ?_
    refine rSkip rfl rfl rfl ?_
    refine rpk (e := false) rfl rfl rfl rfl rfl rfl ?_
    refine rmB rfl rfl rfl rfl rfl ?_
    refine rSkip rfl rfl rfl ?_
    refine rSkip rfl rfl rfl ?_
    refine rSkip rfl rfl rfl ?_
    refine rpk (e := false) rfl rfl rfl rfl rfl rfl ?_
    refine rmB rfl rfl rfl rfl rfl ?_
    refine rSkip rfl rfl rfl ?_
    refine rSkip rfl rfl rfl ?_
    refine rSkip rfl rfl rfl ?_
    refine rpk (e := false) rfl rfl rfl rfl rfl rfl ?_
    refine raB rfl rfl rfl rfl rfl ?_
    refine rNil ?_
    refine qSeq ?_
    refine wRet ?_
    first | (refine finT rfl ?_; unfold An.OK; omega) | (refine finF rfl ?_; unfold An.OK; omega)
def ltS (a b : ByteArray) : Prop := Op.bytesLess a.toList b.toList = true
def lkAt (t : Tb) (i : Nat) : Prop := (t.lk.getD i Lk0).OK t.nx ∧ (0 < i → ltS (t.lk.getD (i - 1) Lk0).nm (t.lk.getD i Lk0).nm)
def Sn.OK (s : Sn) : Prop := (0 ≤ s.cl ∧ s.cl ≤ 255) ∧ (1 ≤ s.st ∧ s.st ≤ 65535) ∧ s.an.OK
def snAt (t : Tb) (i : Nat) : Prop := (t.sn.getD i Sn0).OK ∧ (0 < i → (t.sn.getD (i - 1) Sn0).cl < (t.sn.getD i Sn0).cl)
def Tb.OK (t : Tb) : Prop := (0 ≤ t.tm ∧ t.tm ≤ 1000000000) ∧ (1 ≤ t.nx ∧ t.nx ≤ 1000000) ∧ t.lk.length ≤ 4 ∧ t.sn.length ≤ 6 ∧ (∀ i, i < t.lk.length → lkAt t i) ∧ ∀ i, i < t.sn.length → snAt t i
noncomputable instance (t : Tb) : Decidable t.OK := Classical.propDecidable _
theorem pred_nat (i : Nat) : ((i : Int) - 1).toNat = i - 1 := by omega
theorem p23 (t : Tb) (b n1 n2 : Bool) : Pure En 35 [.agg (t.T b n1 n2)] [.one (.bool (decide t.OK))] := by
  have hl : (t.lk.map (Lk.T b)).length = t.lk.length := List.length_map ..
  have hl2 : (t.sn.map Sn.T).length = t.sn.length := List.length_map ..
  refine Pure.of_wp Try.func35 rfl (Nat.le_of_ble_eq_true rfl) ?_
  refine wSeq ?_
  refine wRegion ?_
  refine rbx (u := .agg [.int _ _, .int _ _, _, _]) rfl rfl rfl rfl rfl rfl rfl ?_
  refine raB rfl rfl rfl rfl rfl ?_
  refine rNil ?_
  refine qSeq ?_
  refine wSeq ?_
  refine wSeq ?_
  refine wRegion ?_
  refine rfa (off := 0) (s := 1) (r := false) rfl rfl rfl (Nat.succ_ne_zero _) rfl rfl rfl ?_
  (apply rlc (v := .int _ _) rfl rfl; (first | ((simp (disch := omega) only [↓app0, ↓appC, ↓updS, ↓updN, ↓hpS, ↓hpN]) <;> first | rfl | assumption) | assumption | rfl); rfl; rfl; rfl; rfl; rfl; rfl)
  refine rclP (p45 _ _ _) rfl rfl rfl rfl rfl rfl ?_ ?_ <;> intro h1_2
  · refine rnot (c := true) rfl rfl rfl rfl rfl ?_
    refine rmB rfl rfl rfl rfl rfl ?_
    refine rfa (off := 1) (s := 1) (r := false) rfl rfl rfl (Nat.succ_ne_zero _) rfl rfl rfl ?_
    (apply rlc (v := .int _ _) rfl rfl; (first | ((simp (disch := omega) only [↓app0, ↓appC, ↓updS, ↓updN, ↓hpS, ↓hpN]) <;> first | rfl | assumption) | assumption | rfl); rfl; rfl; rfl; rfl; rfl; rfl)
    refine rclP (p45 _ _ _) rfl rfl rfl rfl rfl rfl ?_ ?_ <;> intro h1_7
    · refine rnot (c := true) rfl rfl rfl rfl rfl ?_
      refine rpk (e := false) rfl rfl rfl rfl rfl rfl ?_
      refine rmB rfl rfl rfl rfl rfl ?_
      refine rfa (off := 2) (s := 1) (r := false) rfl rfl rfl (Nat.succ_ne_zero _) rfl rfl rfl ?_
      (apply rlc (v := .sl _ _ _) rfl rfl; (first | ((simp (disch := omega) only [↓app0, ↓appC, ↓updS, ↓updN, ↓hpS, ↓hpN]) <;> first | rfl | assumption) | assumption | rfl); rfl; rfl; rfl; rfl; rfl; rfl)
      refine rll rfl rfl rfl rfl rfl rfl ?_
      refine rgt rfl rfl rfl rfl rfl rfl ?_ ?_ <;> intro h1_14
      · refine rpk (e := true) rfl rfl rfl rfl rfl rfl ?_
        refine rmB rfl rfl rfl rfl rfl ?_
        refine rSkip rfl rfl rfl ?_
        refine rSkip rfl rfl rfl ?_
        refine rSkip rfl rfl rfl ?_
        refine rSkip rfl rfl rfl ?_
        refine rpk (e := true) rfl rfl rfl rfl rfl rfl ?_
        refine rNil ?_
        refine qSeq ?_
        refine wT rfl ?_
        refine wSeq ?_
        refine wRegion ?_
        refine raB rfl rfl rfl rfl rfl ?_
        refine rNil ?_
        refine qSeq ?_
        refine wRet ?_
        refine qSeqR ?_
        (refine finF rfl fun hw => ?_; obtain ⟨w1, w2, w3, w4, w5, w6⟩ := hw; first | contradiction | omega)
      · refine rpk (e := false) rfl rfl rfl rfl rfl rfl ?_
        refine rmB rfl rfl rfl rfl rfl ?_
        refine rfa (off := 3) (s := 1) (r := false) rfl rfl rfl (Nat.succ_ne_zero _) rfl rfl rfl ?_
        (apply rlc (v := .sl _ _ _) rfl rfl; (first | ((simp (disch := omega) only [↓app0, ↓appC, ↓updS, ↓updN, ↓hpS, ↓hpN]) <;> first | rfl | assumption) | assumption | rfl); rfl; rfl; rfl; rfl; rfl; rfl)
        refine rll rfl rfl rfl rfl rfl rfl ?_
        refine rgt rfl rfl rfl rfl rfl rfl ?_ ?_ <;> intro h1_20
        · refine rpk (e := true) rfl rfl rfl rfl rfl rfl ?_
          refine rNil ?_
          refine qSeq ?_
          refine wT rfl ?_
          refine wSeq ?_
          refine wRegion ?_
          refine raB rfl rfl rfl rfl rfl ?_
          refine rNil ?_
          refine qSeq ?_
          refine wRet ?_
          refine qSeqR ?_
          (refine finF rfl fun hw => ?_; obtain ⟨w1, w2, w3, w4, w5, w6⟩ := hw; first | contradiction | omega)
        · refine rpk (e := false) rfl rfl rfl rfl rfl rfl ?_
          refine rNil ?_
          refine qSeq ?_
          refine wF rfl ?_
          refine wSkip ?_
          refine qSeq ?_
          refine wSeq ?_
          refine wSeq ?_
          refine wRegion ?_
          refine rfa (off := 2) (s := 1) (r := false) rfl rfl rfl (Nat.succ_ne_zero _) rfl rfl rfl ?_
          (apply rlc (v := .sl _ _ _) rfl rfl; (first | ((simp (disch := omega) only [↓app0, ↓appC, ↓updS, ↓updN, ↓hpS, ↓hpN]) <;> first | rfl | assumption) | assumption | rfl); rfl; rfl; rfl; rfl; rfl; rfl)
          refine rll rfl rfl rfl rfl rfl rfl ?_
          refine rmI rfl rfl rfl rfl rfl ?_
          refine rNil ?_
          refine qSeq ?_
          refine wBlock ?_
          refine wLoop ?_
          refine loopGo (fun (a : Nat × Nat) => [.unk, .ptr 0 0 0, .unk, .unk, .unk, .unk, .unk, .unk, .unk, .unk, .unk, .unk, .unk, .unk, .unk, .unk, .unk, .unk, .unk, .unk, .unk, .unk, .unk, .unk, .unk, .unk, .unk, .unk, .unk, .unk, .sl false n1 (t.lk.map (Lk.T b)), .int .i64 (t.lk.map (Lk.T b)).length, .int .i64 a.1]) (fun (a : Nat × Nat) => hp [(0, ⟨[[.int .i64 t.tm, .int .i64 t.nx, .sl false n1 (t.lk.map (Lk.T b)), .sl false n2 (t.sn.map Sn.T)]], 4, 35⟩)]) (fun (a : Nat × Nat) => a.2) (fun (a : Nat × Nat) => a.1 ≤ t.lk.length ∧ (∀ j, j < a.1 → lkAt t j) ∧ 1 ≤ a.2) (fun (a : Nat × Nat) => t.lk.length - a.1) (0, 1) ?_ ?_ ?_ ?_ ?_
          · exact ⟨Nat.zero_le _, all0, Nat.le_refl _⟩
          · (repeat first | exact LE.nil _ | refine LE.unk _ _ ?_ | refine LE.eq _ _ _ rfl ?_)
          · (repeat first | exact lessH0 | (refine lessHc ?_ ?_; (first | (first | ((simp (disch := omega) only [↓app0, ↓appC, ↓updS, ↓updN, ↓hpS, ↓hpN]) <;> first | rfl | assumption) | assumption | rfl) | fail)))
          · exact Nat.le_refl _
          intro ⟨i0, m⟩ hI ih
          dsimp only at hI ⊢
          have hK := hI
          refine lStep ?_
          refine wSeq ?_
          refine wRegion ?_
          refine rlt rfl rfl rfl rfl rfl rfl ?_ ?_ <;> intro h4_0
          · refine rNil ?_
            refine qSeq ?_
            refine wSeq ?_
            refine wT rfl ?_
            refine wSkip ?_
            refine qSeq ?_
            refine wSeq ?_
            refine wBlock ?_
            refine wSeq ?_
            refine wRegion ?_
            refine rmI rfl rfl rfl rfl rfl ?_
            (apply rixl rfl rfl rfl rfl; (first | omega | assumption | (focus (simp; omega))); (first | rfl | assumption | (first | exact getMap (Lk.T b) Lk0 (by omega) | exact getMap Sn.T Sn0 (by omega))); rfl; rfl; rfl; rfl)
            refine rlir (vs := [.str _, .int _ _, .int _ _, .int _ _, _]) rfl rfl rfl (Nat.le_of_ble_eq_true rfl) rfl rfl rfl rfl ?_
            refine ral rfl rfl rfl rfl rfl rfl ?_
            refine raI rfl rfl rfl rfl rfl ?_
            (apply rst (u := .agg [.str _, .int _ _, .int _ _, .int _ _, _]) rfl rfl rfl; (first | ((simp (disch := omega) only [↓app0, ↓appC, ↓updS, ↓updN, ↓hpS, ↓hpN]) <;> first | rfl | assumption) | assumption | rfl); rfl; rfl; rfl; rfl; rfl; (exact Nat.le_of_ble_eq_true rfl); rfl; rfl; rfl)
            refine rNil ?_
            refine qSeq ?_
            refine wSeq ?_
            refine wDraw [0, 0, 2, 7, 15, 31, 63, 127, 255, 511, 1023, 511, 2559, 8191, 16383, 32767, 511, 66047, 262143, 524287, 1048575] rfl (by decide +kernel) ?_
            (apply dlr (vs := [.str _, .int _ _, .int _ _, .int _ _, _]) rfl rfl; (first | ((simp (disch := omega) only [↓app0, ↓appC, ↓updS, ↓updN, ↓hpS, ↓hpN]) <;> first | rfl | assumption) | assumption | rfl); rfl; rfl; (exact Nat.le_of_ble_eq_true rfl); rfl; rfl; rfl; rfl)
            refine dfa (off := 1) (s := 1) (r := false) rfl rfl rfl (Nat.succ_ne_zero _) rfl rfl rfl ?_
            (apply dlc (v := .int _ _) rfl rfl; (first | ((simp (disch := omega) only [↓app0, ↓appC, ↓updS, ↓updN, ↓hpS, ↓hpN]) <;> first | rfl | assumption) | assumption | rfl); rfl; rfl; rfl; rfl; rfl; rfl)
            refine dclP (p46 (t.lk.getD i0 Lk0) b t.nx (by omega)) rfl rfl rfl rfl rfl rfl ?_ ?_ <;> intro h6_3
            · refine dnot (c := true) rfl rfl rfl rfl rfl ?_
              refine dmB rfl rfl rfl rfl rfl ?_
              refine dmI rfl rfl rfl rfl rfl ?_
              refine dgt rfl rfl rfl rfl rfl rfl ?_ ?_ <;> intro h6_7
              · refine dmB rfl rfl rfl rfl rfl ?_
                refine dfa (off := 2) (s := 1) (r := false) rfl rfl rfl (Nat.succ_ne_zero _) rfl rfl rfl ?_
                (apply dlc (v := .sl _ _ _) rfl rfl; (first | ((simp (disch := omega) only [↓app0, ↓appC, ↓updS, ↓updN, ↓hpS, ↓hpN]) <;> first | rfl | assumption) | assumption | rfl); rfl; rfl; rfl; rfl; rfl; rfl)
                refine dmI rfl rfl rfl rfl rfl ?_
                refine dsubF rfl rfl rfl ?_ ?_ rfl rfl rfl ?_
                · (first | omega | assumption | (focus (simp; omega)))
                · (first | omega | assumption | (focus (simp; omega)))
                (apply dixl rfl rfl rfl rfl; (first | omega | assumption | (focus (simp; omega))); (first | rfl | assumption | (first | exact getMap (Lk.T b) Lk0 (by omega) | exact getMap Sn.T Sn0 (by omega))); rfl; rfl; rfl; rfl)
                refine dfai (off := 0) (s := 1) (r := false) rfl rfl rfl (Nat.succ_ne_zero _) rfl rfl rfl rfl ?_
                refine dlic (v := .str _) rfl rfl rfl rfl rfl rfl rfl rfl ?_
                refine dfa (off := 0) (s := 1) (r := false) rfl rfl rfl (Nat.succ_ne_zero _) rfl rfl rfl ?_
                (apply dlc (v := .str _) rfl rfl; (first | ((simp (disch := omega) only [↓app0, ↓appC, ↓updS, ↓updN, ↓hpS, ↓hpN]) <;> first | rfl | assumption) | assumption | rfl); rfl; rfl; rfl; rfl; rfl; rfl)
                refine dsge rfl rfl rfl rfl rfl rfl ?_ ?_ <;> intro h6_18
                · refine dpk (e := true) rfl rfl rfl rfl rfl rfl ?_
                  refine dpk (e := true) rfl rfl rfl rfl rfl rfl ?_
                  refine dNilR 21 [0, 0, 0, 1, 0, 0, 0, 0, 0, 0, 1, 0, 0, 0, 0, 0, 0, 0, 1, 0, 1] [] rfl rfl (by decide +kernel) trivial ?_
                  refine qSeq ?_
                  refine wT rfl ?_
                  refine wSeq ?_
                  refine wRegion ?_
                  refine raB rfl rfl rfl rfl rfl ?_
                  refine rNil ?_
                  refine qSeq ?_
                  refine wRet ?_
                  refine qBlockR ?_
                  refine qSeqR ?_
                  refine qLoopR ?_
                  refine qBlockR ?_
                  refine qSeqR ?_
                  (refine finF rfl fun hw => ?_; obtain ⟨w1, w2, w3, w4, w5, w6⟩ := hw; obtain ⟨v1, v2⟩ := w5 i0 (by omega); first | exact h6_3 v1 | (have v3 := v2 (by omega); unfold ltS at v3; rw [pred_nat, Int.toNat_natCast, v3] at h6_18; cases h6_18))
                · refine dpk (e := false) rfl rfl rfl rfl rfl rfl ?_
                  refine dpk (e := false) rfl rfl rfl rfl rfl rfl ?_
                  refine dNilR 21 [0, 0, 0, 1, 0, 0, 0, 0, 0, 0, 1, 0, 0, 0, 0, 0, 0, 0, 1, 0, 1] [] rfl rfl (by decide +kernel) trivial ?_
                  refine qSeq ?_
                  refine wF rfl ?_
                  refine wSkip ?_
                  refine qBlock ?_
                  refine qSeq ?_
                  refine wRegion ?_
                  refine raddF rfl rfl rfl ?_ ?_ rfl rfl rfl ?_
                  · (first | omega | assumption | (focus (simp; omega)))
                  · (first | omega | assumption | (focus (simp; omega)))
                  refine rmI rfl rfl rfl rfl rfl ?_
                  refine rNil ?_
                  refine qLoop ?_
                  exact wlH (ih (i0 + 1, m + 1) ⟨by dsimp only; omega, allS hI.2.1 ⟨h6_3, fun h0 => by first | omega | (rw [pred_nat] at h6_18; unfold ltS; simpa using h6_18)⟩, by dsimp only; omega⟩ (by dsimp only; omega)) (by (repeat first | exact LE.nil _ | refine LE.unk _ _ ?_ | refine LE.eq _ _ _ rfl ?_)) (by (repeat first | exact lessH0 | (refine lessHc ?_ ?_; (first | (first | ((simp (disch := omega) only [↓app0, ↓appC, ↓updS, ↓updN, ↓hpS, ↓hpN]) <;> first | rfl | assumption) | assumption | rfl) | fail)))) (Nat.le_refl _)
              · refine dmB rfl rfl rfl rfl rfl ?_
                refine dSkip rfl rfl rfl ?_
                refine dSkip rfl rfl rfl ?_
                refine dSkip rfl rfl rfl ?_
                refine dSkip rfl rfl rfl ?_
                refine dSkip rfl rfl rfl ?_
                refine dSkip rfl rfl rfl ?_
                refine dSkip rfl rfl rfl ?_
                refine dSkip rfl rfl rfl ?_
                refine dSkip rfl rfl rfl ?_
                refine dSkip rfl rfl rfl ?_
                refine dpk (e := false) rfl rfl rfl rfl rfl rfl ?_
                refine dpk (e := false) rfl rfl rfl rfl rfl rfl ?_
                refine dNilR 21 [0, 0, 0, 0, 0, 0, 0, 0, 0, 0, 0, 0, 0, 0, 0, 0, 0, 0, 1, 0, 1] [] rfl rfl (by decide +kernel) trivial ?_
                refine qSeq ?_
                refine wF rfl ?_
                refine wSkip ?_
                refine qBlock ?_
                refine qSeq ?_
                refine wRegion ?_
                refine raddF rfl rfl rfl ?_ ?_ rfl rfl rfl ?_
                · (first | omega | assumption | (focus (simp; omega)))
                · (first | omega | assumption | (focus (simp; omega)))
                refine rmI rfl rfl rfl rfl rfl ?_
                refine rNil ?_
                refine qLoop ?_
                exact wlH (ih (i0 + 1, m + 1) ⟨by dsimp only; omega, allS hI.2.1 ⟨h6_3, fun h0 => by first | omega | (rw [pred_nat] at h6_18; unfold ltS; simpa using h6_18)⟩, by dsimp only; omega⟩ (by dsimp only; omega)) (by (repeat first | exact LE.nil _ | refine LE.unk _ _ ?_ | refine LE.eq _ _ _ rfl ?_)) (by (repeat first | exact lessH0 | (refine lessHc ?_ ?_; (first | (first | ((simp (disch := omega) only [↓app0, ↓appC, ↓updS, ↓updN, ↓hpS, ↓hpN]) <;> first | rfl | assumption) | assumption | rfl) | fail)))) (Nat.le_refl _)
            · refine dnot (c := false) rfl rfl rfl rfl rfl ?_
              refine dmB rfl rfl rfl rfl rfl ?_
              refine dSkip rfl rfl rfl ?_
              refine dSkip rfl rfl rfl ?_
              refine dSkip rfl rfl rfl ?_
              refine dSkip rfl rfl rfl ?_
              refine dSkip rfl rfl rfl ?_
              refine dSkip rfl rfl rfl ?_
              refine dSkip rfl rfl rfl ?_
              refine dSkip rfl rfl rfl ?_
              refine dSkip rfl rfl rfl ?_
              refine dSkip rfl rfl rfl ?_
              refine dSkip rfl rfl rfl ?_
              refine dSkip rfl rfl rfl ?_
              refine dSkip rfl rfl rfl ?_
              refine dSkip rfl rfl rfl ?_
              refine dpk (e := true) rfl rfl rfl rfl rfl rfl ?_
              refine dNilR 21 [0, 0, 0, 0, 0, 0, 0, 0, 0, 0, 0, 0, 0, 0, 0, 0, 0, 0, 1, 0, 1] [] rfl rfl (by decide +kernel) trivial ?_
              refine qSeq ?_
              refine wT rfl ?_
              refine wSeq ?_
              refine wRegion ?_
              refine raB rfl rfl rfl rfl rfl ?_
              refine rNil ?_
              refine qSeq ?_
              refine wRet ?_
              refine qBlockR ?_
              refine qSeqR ?_
              refine qLoopR ?_
              refine qBlockR ?_
              refine qSeqR ?_
              (refine finF rfl fun hw => ?_; obtain ⟨w1, w2, w3, w4, w5, w6⟩ := hw; obtain ⟨v1, v2⟩ := w5 i0 (by omega); first | exact h6_3 v1 | (have v3 := v2 (by omega); unfold ltS at v3; rw [pred_nat, Int.toNat_natCast, v3] at h6_18; cases h6_18))
          · refine rNil ?_
            refine qSeq ?_
            refine wSeq ?_
            refine wF rfl ?_
            refine wExit ?_
            refine qSeqX ?_
            refine qLoopX ?_
            refine qBlockX ?_
            refine qSeq ?_
            refine wSeq ?_
            refine wSeq ?_
            refine wRegion ?_
            refine rfa (off := 3) (s := 1) (r := false) rfl rfl rfl (Nat.succ_ne_zero _) rfl rfl rfl ?_
            (apply rlc (v := .sl _ _ _) rfl rfl; (first | ((simp (disch := omega) only [↓app0, ↓appC, ↓updS, ↓updN, ↓hpS, ↓hpN]) <;> first | rfl | assumption) | assumption | rfl); rfl; rfl; rfl; rfl; rfl; rfl)
            refine rll rfl rfl rfl rfl rfl rfl ?_
            refine rmI rfl rfl rfl rfl rfl ?_
            refine rNil ?_
            refine qSeq ?_
            refine wBlock ?_
            refine wLoop ?_
            refine loopGo (fun (a : Nat × Nat) => [.unk, .ptr 0 0 0, .unk, .unk, .unk, .unk, .unk, .unk, .unk, .unk, .unk, .unk, .unk, .unk, .unk, .unk, .unk, .unk, .unk, .unk, .unk, .unk, .unk, .unk, .unk, .unk, .unk, .unk, .unk, .unk, .unk, .unk, .unk, .unk, .unk, .unk, .unk, .unk, .unk, .unk, .unk, .unk, .unk, .unk, .unk, .unk, .unk, .unk, .unk, .unk, .unk, .unk, .unk, .unk, .unk, .unk, .unk, .unk, .unk, .unk, .sl false n2 (t.sn.map Sn.T), .int .i64 (t.sn.map Sn.T).length, .int .i64 a.1]) (fun (a : Nat × Nat) => hp [(0, ⟨[[.int .i64 t.tm, .int .i64 t.nx, .sl false n1 (t.lk.map (Lk.T b)), .sl false n2 (t.sn.map Sn.T)]], 4, 35⟩)]) (fun (a : Nat × Nat) => a.2) (fun (a : Nat × Nat) => a.1 ≤ t.sn.length ∧ (∀ j, j < a.1 → snAt t j) ∧ 1 ≤ a.2) (fun (a : Nat × Nat) => t.sn.length - a.1) (0, m) ?_ ?_ ?_ ?_ ?_
            · exact ⟨Nat.zero_le _, all0, hI.2.2⟩
            · (repeat first | exact LE.nil _ | refine LE.unk _ _ ?_ | refine LE.eq _ _ _ rfl ?_)
            · (repeat first | exact lessH0 | (refine lessHc ?_ ?_; (first | (first | ((simp (disch := omega) only [↓app0, ↓appC, ↓updS, ↓updN, ↓hpS, ↓hpN]) <;> first | rfl | assumption) | assumption | rfl) | fail)))
            · exact Nat.le_refl _
            intro ⟨i, m⟩ hI ih
            dsimp only at hI ⊢
            refine lStep ?_
            refine wSeq ?_
            refine wRegion ?_
            refine rlt rfl rfl rfl rfl rfl rfl ?_ ?_ <;> intro h10_0
            · refine rNil ?_
              refine qSeq ?_
              refine wSeq ?_
              refine wT rfl ?_
              refine wSkip ?_
              refine qSeq ?_
              refine wSeq ?_
              refine wBlock ?_
              refine wSeq ?_
              refine wRegion ?_
              refine rmI rfl rfl rfl rfl rfl ?_
              (apply rixl rfl rfl rfl rfl; (first | omega | assumption | (focus (simp; omega))); (first | rfl | assumption | (first | exact getMap (Lk.T b) Lk0 (by omega) | exact getMap Sn.T Sn0 (by omega))); rfl; rfl; rfl; rfl)
              refine rlir (vs := [.int _ _, .int _ _, .int _ _, .int _ _, .int _ _, .int _ _]) rfl rfl rfl (Nat.le_of_ble_eq_true rfl) rfl rfl rfl rfl ?_
              refine ral rfl rfl rfl rfl rfl rfl ?_
              refine raI rfl rfl rfl rfl rfl ?_
              (apply rst (u := .agg [.int _ _, .int _ _, .int _ _, .int _ _, .int _ _, .int _ _]) rfl rfl rfl; (first | ((simp (disch := omega) only [↓app0, ↓appC, ↓updS, ↓updN, ↓hpS, ↓hpN]) <;> first | rfl | assumption) | assumption | rfl); rfl; rfl; rfl; rfl; rfl; (exact Nat.le_of_ble_eq_true rfl); rfl; rfl; rfl)
              refine rNil ?_
              refine qSeq ?_
              refine wSeq ?_
              refine wDraw [0, 1, 3, 7, 15, 31, 63, 127, 255, 511, 1023, 2047, 4095, 8191, 16383, 32767, 65535, 131071, 262143, 524287, 1048575, 2097151, 1048575, 5242879, 16777215, 33554431, 67108863, 1048575, 135266303, 536870911, 1073741823, 2147483647] rfl (by decide +kernel) ?_
              refine dfa (off := 0) (s := 1) (r := false) rfl rfl rfl (Nat.succ_ne_zero _) rfl rfl rfl ?_
              (apply dlc (v := .int _ _) rfl rfl; (first | ((simp (disch := omega) only [↓app0, ↓appC, ↓updS, ↓updN, ↓hpS, ↓hpN]) <;> first | rfl | assumption) | assumption | rfl); rfl; rfl; rfl; rfl; rfl; rfl)
              refine dclP (p45 _ _ _) rfl rfl rfl rfl rfl rfl ?_ ?_ <;> intro h12_2
              · refine dnot (c := true) rfl rfl rfl rfl rfl ?_
                refine dmB rfl rfl rfl rfl rfl ?_
                refine dfa (off := 1) (s := 1) (r := false) rfl rfl rfl (Nat.succ_ne_zero _) rfl rfl rfl ?_
                (apply dlc (v := .int _ _) rfl rfl; (first | ((simp (disch := omega) only [↓app0, ↓appC, ↓updS, ↓updN, ↓hpS, ↓hpN]) <;> first | rfl | assumption) | assumption | rfl); rfl; rfl; rfl; rfl; rfl; rfl)
                refine dclP (p45 _ _ _) rfl rfl rfl rfl rfl rfl ?_ ?_ <;> intro h12_7
                · refine dnot (c := true) rfl rfl rfl rfl rfl ?_
                  refine dpk (e := false) rfl rfl rfl rfl rfl rfl ?_
                  refine dmB rfl rfl rfl rfl rfl ?_
                  refine dfa (off := 2) (s := 4) (r := true) rfl rfl rfl (Nat.succ_ne_zero _) rfl rfl rfl ?_
                  (apply dlr (vs := [.int _ _, .int _ _, .int _ _, .int _ _]) rfl rfl; (first | ((simp (disch := omega) only [↓app0, ↓appC, ↓updS, ↓updN, ↓hpS, ↓hpN]) <;> first | rfl | assumption) | assumption | rfl); rfl; rfl; (exact Nat.le_of_ble_eq_true rfl); rfl; rfl; rfl; rfl)
                  refine dclP (p47 (t.sn.getD i Sn0).an) rfl rfl rfl rfl rfl rfl ?_ ?_ <;> intro h12_13
                  · refine dnot (c := true) rfl rfl rfl rfl rfl ?_
                    refine dpk (e := false) rfl rfl rfl rfl rfl rfl ?_
                    refine dmB rfl rfl rfl rfl rfl ?_
                    refine dmI rfl rfl rfl rfl rfl ?_
                    refine dgt rfl rfl rfl rfl rfl rfl ?_ ?_ <;> intro h12_18
                    · refine dmB rfl rfl rfl rfl rfl ?_
                      refine dfa (off := 3) (s := 1) (r := false) rfl rfl rfl (Nat.succ_ne_zero _) rfl rfl rfl ?_
                      (apply dlc (v := .sl _ _ _) rfl rfl; (first | ((simp (disch := omega) only [↓app0, ↓appC, ↓updS, ↓updN, ↓hpS, ↓hpN]) <;> first | rfl | assumption) | assumption | rfl); rfl; rfl; rfl; rfl; rfl; rfl)
                      refine dmI rfl rfl rfl rfl rfl ?_
                      refine dsubF rfl rfl rfl ?_ ?_ rfl rfl rfl ?_
                      · (first | omega | assumption | (focus (simp; omega)))
                      · (first | omega | assumption | (focus (simp; omega)))
                      (apply dixl rfl rfl rfl rfl; (first | omega | assumption | (focus (simp; omega))); (first | rfl | assumption | (first | exact getMap (Lk.T b) Lk0 (by omega) | exact getMap Sn.T Sn0 (by omega))); rfl; rfl; rfl; rfl)
                      refine dfai (off := 0) (s := 1) (r := false) rfl rfl rfl (Nat.succ_ne_zero _) rfl rfl rfl rfl ?_
                      refine dlic (v := .int _ _) rfl rfl rfl rfl rfl rfl rfl rfl ?_
                      refine dfa (off := 0) (s := 1) (r := false) rfl rfl rfl (Nat.succ_ne_zero _) rfl rfl rfl ?_
                      (apply dlc (v := .int _ _) rfl rfl; (first | ((simp (disch := omega) only [↓app0, ↓appC, ↓updS, ↓updN, ↓hpS, ↓hpN]) <;> first | rfl | assumption) | assumption | rfl); rfl; rfl; rfl; rfl; rfl; rfl)
                      refine dge rfl rfl rfl rfl rfl rfl ?_ ?_ <;> intro h12_29
                      · refine dpk (e := true) rfl rfl rfl rfl rfl rfl ?_
                        refine dpk (e := true) rfl rfl rfl rfl rfl rfl ?_
                        refine dNilR 32 [0, 0, 0, 1, 0, 0, 0, 0, 0, 0, 1, 0, 0, 0, 0, 0, 0, 0, 0, 1, 0, 0, 0, 0, 0, 1, 0, 0, 0, 0, 1, 0] [] rfl rfl (by decide +kernel) trivial ?_
                        refine qSeq ?_
                        refine wT rfl ?_
                        refine wSeq ?_
                        refine wRegion ?_
                        refine raB rfl rfl rfl rfl rfl ?_
                        refine rNil ?_
                        refine qSeq ?_
                        refine wRet ?_
                        refine qBlockR ?_
                        refine qSeqR ?_
                        refine qLoopR ?_
                        refine qBlockR ?_
                        refine qSeqR ?_
                        (refine finF rfl fun hw => ?_; obtain ⟨w1, w2, w3, w4, w5, w6⟩ := hw; obtain ⟨⟨v1, v2, v3⟩, v4⟩ := w6 i (by omega); first | exact h12_2 v1 | exact h12_7 v2 | exact h12_13 v3 | (have v5 := v4 (by omega); rw [pred_nat] at h12_29; exact Int.not_le.mpr v5 h12_29))
                      · refine dpk (e := false) rfl rfl rfl rfl rfl rfl ?_
                        refine dpk (e := false) rfl rfl rfl rfl rfl rfl ?_
                        refine dNilR 32 [0, 0, 0, 1, 0, 0, 0, 0, 0, 0, 1, 0, 0, 0, 0, 0, 0, 0, 0, 1, 0, 0, 0, 0, 0, 1, 0, 0, 0, 0, 1, 0] [] rfl rfl (by decide +kernel) trivial ?_
                        refine qSeq ?_
                        refine wF rfl ?_
                        refine wSkip ?_
                        refine qBlock ?_
                        refine qSeq ?_
                        refine wRegion ?_
                        refine raddF rfl rfl rfl ?_ ?_ rfl rfl rfl ?_
                        · (first | omega | assumption | (focus (simp; omega)))
                        · (first | omega | assumption | (focus (simp; omega)))
                        refine rmI rfl rfl rfl rfl rfl ?_
                        refine rNil ?_
                        refine qLoop ?_
                        exact wlH (ih (i + 1, m + 1) ⟨by dsimp only; omega, allS hI.2.1 ⟨⟨h12_2, h12_7, h12_13⟩, fun h0 => by first | omega | (rw [pred_nat] at h12_29; exact Int.not_le.mp h12_29)⟩, by dsimp only; omega⟩ (by dsimp only; omega)) (by (repeat first | exact LE.nil _ | refine LE.unk _ _ ?_ | refine LE.eq _ _ _ rfl ?_)) (by (repeat first | exact lessH0 | (refine lessHc ?_ ?_; (first | (first | ((simp (disch := omega) only [↓app0, ↓appC, ↓updS, ↓updN, ↓hpS, ↓hpN]) <;> first | rfl | assumption) | assumption | rfl) | fail)))) (Nat.le_refl _)
                    · refine dmB rfl rfl rfl rfl rfl ?_
                      refine dSkip rfl rfl rfl ?_
                      refine dSkip rfl rfl rfl ?_
                      refine dSkip rfl rfl rfl ?_
                      refine dSkip rfl rfl rfl ?_
                      refine dSkip rfl rfl rfl ?_
                      refine dSkip rfl rfl rfl ?_
                      refine dSkip rfl rfl rfl ?_
                      refine dSkip rfl rfl rfl ?_
                      refine dSkip rfl rfl rfl ?_
                      refine dSkip rfl rfl rfl ?_
                      refine dpk (e := false) rfl rfl rfl rfl rfl rfl ?_
                      refine dpk (e := false) rfl rfl rfl rfl rfl rfl ?_
                      refine dNilR 32 [0, 0, 0, 0, 0, 0, 0, 0, 0, 0, 0, 0, 0, 0, 0, 0, 0, 0, 0, 1, 0, 0, 0, 0, 0, 1, 0, 0, 0, 0, 1, 0] [] rfl rfl (by decide +kernel) trivial ?_
                      refine qSeq ?_
                      refine wF rfl ?_
                      refine wSkip ?_
                      refine qBlock ?_
                      refine qSeq ?_
                      refine wRegion ?_
                      refine raddF rfl rfl rfl ?_ ?_ rfl rfl rfl ?_
                      · (first | omega | assumption | (focus (simp; omega)))
                      · (first | omega | assumption | (focus (simp; omega)))
                      refine rmI rfl rfl rfl rfl rfl ?_
                      refine rNil ?_
                      refine qLoop ?_
                      exact wlH (ih (i + 1, m + 1) ⟨by dsimp only; omega, allS hI.2.1 ⟨⟨h12_2, h12_7, h12_13⟩, fun h0 => by first | omega | (rw [pred_nat] at h12_29; exact Int.not_le.mp h12_29)⟩, by dsimp only; omega⟩ (by dsimp only; omega)) (by (repeat first | exact LE.nil _ | refine LE.unk _ _ ?_ | refine LE.eq _ _ _ rfl ?_)) (by (repeat first | exact lessH0 | (refine lessHc ?_ ?_; (first | (first | ((simp (disch := omega) only [↓app0, ↓appC, ↓updS, ↓updN, ↓hpS, ↓hpN]) <;> first | rfl | assumption) | assumption | rfl) | fail)))) (Nat.le_refl _)
                  · refine dnot (c := false) rfl rfl rfl rfl rfl ?_
                    refine dpk (e := true) rfl rfl rfl rfl rfl rfl ?_
                    refine dmB rfl rfl rfl rfl rfl ?_
                    refine dSkip rfl rfl rfl ?_
                    refine dSkip rfl rfl rfl ?_
                    refine dSkip rfl rfl rfl ?_
                    refine dSkip rfl rfl rfl ?_
                    refine dSkip rfl rfl rfl ?_
                    refine dSkip rfl rfl rfl ?_
                    refine dSkip rfl rfl rfl ?_
                    refine dSkip rfl rfl rfl ?_
                    refine dSkip rfl rfl rfl ?_
                    refine dSkip rfl rfl rfl ?_
                    refine dSkip rfl rfl rfl ?_
                    refine dSkip rfl rfl rfl ?_
                    refine dSkip rfl rfl rfl ?_
                    refine dSkip rfl rfl rfl ?_
                    refine dpk (e := true) rfl rfl rfl rfl rfl rfl ?_
                    refine dNilR 32 [0, 0, 0, 0, 0, 0, 0, 0, 0, 0, 0, 0, 0, 0, 0, 0, 0, 0, 0, 1, 0, 0, 0, 0, 0, 1, 0, 0, 0, 0, 1, 0] [] rfl rfl (by decide +kernel) trivial ?_
                    refine qSeq ?_
                    refine wT rfl ?_
                    refine wSeq ?_
                    refine wRegion ?_
                    refine raB rfl rfl rfl rfl rfl ?_
                    refine rNil ?_
                    refine qSeq ?_
                    refine wRet ?_
                    refine qBlockR ?_
                    refine qSeqR ?_
                    refine qLoopR ?_
                    refine qBlockR ?_
                    refine qSeqR ?_
                    (refine finF rfl fun hw => ?_; obtain ⟨w1, w2, w3, w4, w5, w6⟩ := hw; obtain ⟨⟨v1, v2, v3⟩, v4⟩ := w6 i (by omega); first | exact h12_2 v1 | exact h12_7 v2 | exact h12_13 v3 | (have v5 := v4 (by omega); rw [pred_nat] at h12_29; exact Int.not_le.mpr v5 h12_29))
                · refine dnot (c := false) rfl rfl rfl rfl rfl ?_
                  refine dpk (e := true) rfl rfl rfl rfl rfl rfl ?_
                  refine dmB rfl rfl rfl rfl rfl ?_
                  refine dSkip rfl rfl rfl ?_
                  refine dSkip rfl rfl rfl ?_
                  refine dSkip rfl rfl rfl ?_
                  refine dSkip rfl rfl rfl ?_
                  refine dpk (e := true) rfl rfl rfl rfl rfl rfl ?_
                  refine dmB rfl rfl rfl rfl rfl ?_
                  refine dSkip rfl rfl rfl ?_
                  refine dSkip rfl rfl rfl ?_
                  refine dSkip rfl rfl rfl ?_
                  refine dSkip rfl rfl rfl ?_
                  refine dSkip rfl rfl rfl ?_
                  refine dSkip rfl rfl rfl ?_
                  refine dSkip rfl rfl rfl ?_
                  refine dSkip rfl rfl rfl ?_
                  refine dSkip rfl rfl rfl ?_
                  refine dSkip rfl rfl rfl ?_
                  refine dSkip rfl rfl rfl ?_
                  refine dSkip rfl rfl rfl ?_
                  refine dSkip rfl rfl rfl ?_
                  refine dSkip rfl rfl rfl ?_
                  refine dpk (e := true) rfl rfl rfl rfl rfl rfl ?_
                  refine dNilR 32 [0, 0, 0, 0, 0, 0, 0, 0, 0, 0, 0, 0, 0, 0, 0, 0, 0, 0, 0, 0, 0, 0, 0, 0, 0, 1, 0, 0, 0, 0, 1, 0] [] rfl rfl (by decide +kernel) trivial ?_
                  refine qSeq ?_
                  refine wT rfl ?_
                  refine wSeq ?_
                  refine wRegion ?_
                  refine raB rfl rfl rfl rfl rfl ?_
                  refine rNil ?_
                  refine qSeq ?_
                  refine wRet ?_
                  refine qBlockR ?_
                  refine qSeqR ?_
                  refine qLoopR ?_
                  refine qBlockR ?_
                  refine qSeqR ?_
                  (refine finF rfl fun hw => ?_; obtain ⟨w1, w2, w3, w4, w5, w6⟩ := hw; obtain ⟨⟨v1, v2, v3⟩, v4⟩ := w6 i (by omega); first | exact h12_2 v1 | exact h12_7 v2 | exact h12_13 v3 | (have v5 := v4 (by omega); rw [pred_nat] at h12_29; exact Int.not_le.mpr v5 h12_29))
              · refine dnot (c := false) rfl rfl rfl rfl rfl ?_
                refine dmB rfl rfl rfl rfl rfl ?_
                refine dSkip rfl rfl rfl ?_
                refine dSkip rfl rfl rfl ?_
                refine dSkip rfl rfl rfl ?_
                refine dSkip rfl rfl rfl ?_
                refine dpk (e := true) rfl rfl rfl rfl rfl rfl ?_
                refine dmB rfl rfl rfl rfl rfl ?_
                refine dSkip rfl rfl rfl ?_
                refine dSkip rfl rfl rfl ?_
                refine dSkip rfl rfl rfl ?_
                refine dSkip rfl rfl rfl ?_
                refine dpk (e := true) rfl rfl rfl rfl rfl rfl ?_
                refine dmB rfl rfl rfl rfl rfl ?_
                refine dSkip rfl rfl rfl ?_
                refine dSkip rfl rfl rfl ?_
                refine dSkip rfl rfl rfl ?_
                refine dSkip rfl rfl rfl ?_
                refine dSkip rfl rfl rfl ?_
                refine dSkip rfl rfl rfl ?_
                refine dSkip rfl rfl rfl ?_
                refine dSkip rfl rfl rfl ?_
                refine dSkip rfl rfl rfl ?_
                refine dSkip rfl rfl rfl ?_
                refine dSkip rfl rfl rfl ?_
                refine dSkip rfl rfl rfl ?_
                refine dSkip rfl rfl rfl ?_
                refine dSkip rfl rfl rfl ?_
                refine dpk (e := true) rfl rfl rfl rfl rfl rfl ?_
                refine dNilR 32 [0, 0, 0, 0, 0, 0, 0, 0, 0, 0, 0, 0, 0, 0, 0, 0, 0, 0, 0, 0, 0, 0, 0, 0, 0, 0, 0, 0, 0, 0, 1, 0] [] rfl rfl (by decide +kernel) trivial ?_
                refine qSeq ?_
                refine wT rfl ?_
                refine wSeq ?_
                refine wRegion ?_
                refine raB rfl rfl rfl rfl rfl ?_
                refine rNil ?_
                refine qSeq ?_
                refine wRet ?_
                refine qBlockR ?_
                refine qSeqR ?_
                refine qLoopR ?_
                refine qBlockR ?_
                refine qSeqR ?_
                (refine finF rfl fun hw => ?_; obtain ⟨w1, w2, w3, w4, w5, w6⟩ := hw; obtain ⟨⟨v1, v2, v3⟩, v4⟩ := w6 i (by omega); first | exact h12_2 v1 | exact h12_7 v2 | exact h12_13 v3 | (have v5 := v4 (by omega); rw [pred_nat] at h12_29; exact Int.not_le.mpr v5 h12_29))
            · refine rNil ?_
              refine qSeq ?_
              refine wSeq ?_
              refine wF rfl ?_
              refine wExit ?_
              refine qSeqX ?_
              refine qLoopX ?_
              refine qBlockX ?_
              refine qSeq ?_
              refine wSeq ?_
              refine wRegion ?_
              refine raB rfl rfl rfl rfl rfl ?_
              refine rNil ?_
              refine qSeq ?_
              refine wRet ?_
              exact finT rfl ⟨h1_2, h1_7, by omega, by omega, fun j hj => hK.2.1 j (by omega), fun j hj => hI.2.1 j (by omega)⟩
    · refine rnot (c := false) rfl rfl rfl rfl rfl ?_
      refine rpk (e := true) rfl rfl rfl rfl rfl rfl ?_
      refine rmB rfl rfl rfl rfl rfl ?_
      refine rSkip rfl rfl rfl ?_
      refine rSkip rfl rfl rfl ?_
      refine rSkip rfl rfl rfl ?_
      refine rSkip rfl rfl rfl ?_
      refine rpk (e := true) rfl rfl rfl rfl rfl rfl ?_
      refine rmB rfl rfl rfl rfl rfl ?_
      refine rSkip rfl rfl rfl ?_
      refine rSkip rfl rfl rfl ?_
      refine rSkip rfl rfl rfl ?_
      refine rSkip rfl rfl rfl ?_
      refine rpk (e := true) rfl rfl rfl rfl rfl rfl ?_
      refine rNil ?_
      refine qSeq ?_
      refine wT rfl ?_
      refine wSeq ?_
      refine wRegion ?_
      refine raB rfl rfl rfl rfl rfl ?_
      refine rNil ?_
      refine qSeq ?_
      refine wRet ?_
      refine qSeqR ?_
      (refine finF rfl fun hw => ?_; obtain ⟨w1, w2, w3, w4, w5, w6⟩ := hw; first | contradiction | omega)
  · refine rnot (c := false) rfl rfl rfl rfl rfl ?_
    refine rmB rfl rfl rfl rfl rfl ?_
    refine rSkip rfl rfl rfl ?_
    refine rSkip rfl rfl rfl ?_
    refine rSkip rfl rfl rfl ?_
    refine rSkip rfl rfl rfl ?_
    refine rpk (e := true) rfl rfl rfl rfl rfl rfl ?_
    refine rmB rfl rfl rfl rfl rfl ?_
    refine rSkip rfl rfl rfl ?_
    refine rSkip rfl rfl rfl ?_
    refine rSkip rfl rfl rfl ?_
    refine rSkip rfl rfl rfl ?_
    refine rpk (e := true) rfl rfl rfl rfl rfl rfl ?_
    refine rmB rfl rfl rfl rfl rfl ?_
    refine rSkip rfl rfl rfl ?_
    refine rSkip rfl rfl rfl ?_
    refine rSkip rfl rfl rfl ?_
    refine rSkip rfl rfl rfl ?_
    refine rpk (e := true) rfl rfl rfl rfl rfl rfl ?_
    refine rNil ?_
    refine qSeq ?_
    refine wT rfl ?_
    refine wSeq ?_
    refine wRegion ?_
    refine raB rfl rfl rfl rfl rfl ?_
    refine rNil ?_
    refine qSeq ?_
    refine wRet ?_
    refine qSeqR ?_
    (refine finF rfl fun hw => ?_; obtain ⟨w1, w2, w3, w4, w5, w6⟩ := hw; first | contradiction | omega)
end Go.Proofs.Ytknnniaoboaghaa
