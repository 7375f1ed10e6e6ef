import Derived.Test.YtknnniaoboaghaaB4
import Derived.Test.YtknnniaoboaghaaVv
namespace Go.Proofs.Ytknnniaoboaghaa
open Go.V
set_option linter.unusedVariables false
set_option linter.unusedSimpArgs false
set_option maxRecDepth 20000
set_option maxHeartbeats 4000000

/-! spec's tables that are right. -/
theorem s82 (a : An) : Pure En 82 [.agg a.T] [.one (.bool (decide a.OK))] := by
  refine Pure.of_wp Try.func82 rfl (Nat.le_of_ble_eq_true rfl) ?_
  refine wSeq ?_
  refine wRegion ?_
  refine rbx (u := .agg [.int _ _, .int _ _, .int _ _, .int _ _]) rfl rfl rfl rfl rfl rfl rfl ?_
  refine raB rfl rfl rfl rfl rfl ?_
  refine rNil ?_
  refine qSeq ?_
  refine wSeq ?_
  refine wRegion ?_
  refine rfa (off := 0) (s := 1) (r := false) rfl rfl rfl (Nat.succ_ne_zero _) rfl rfl rfl ?_
  refine rlc (v := .int _ _) rfl rfl rfl rfl rfl rfl rfl rfl rfl ?_
  refine rclP (p84 _ _ _) rfl rfl rfl rfl rfl rfl ?_ ?_ <;> intro h1_2
  · refine rmB rfl rfl rfl rfl rfl ?_
    refine rfa (off := 1) (s := 1) (r := false) rfl rfl rfl (Nat.succ_ne_zero _) rfl rfl rfl ?_
    refine rlc (v := .int _ _) rfl rfl rfl rfl rfl rfl rfl rfl rfl ?_
    refine rclP (p84 _ _ _) rfl rfl rfl rfl rfl rfl ?_ ?_ <;> intro h1_6
    · refine rpk (e := true) rfl rfl rfl rfl rfl rfl ?_
      refine rmB rfl rfl rfl rfl rfl ?_
      refine rfa (off := 2) (s := 1) (r := false) rfl rfl rfl (Nat.succ_ne_zero _) rfl rfl rfl ?_
      refine rlc (v := .int _ _) rfl rfl rfl rfl rfl rfl rfl rfl rfl ?_
      refine rclP (p84 _ _ _) rfl rfl rfl rfl rfl rfl ?_ ?_ <;> intro h1_11
      · refine rpk (e := true) rfl rfl rfl rfl rfl rfl ?_
        refine rmB rfl rfl rfl rfl rfl ?_
        refine rfa (off := 3) (s := 1) (r := false) rfl rfl rfl (Nat.succ_ne_zero _) rfl rfl rfl ?_
        refine rlc (v := .int _ _) rfl rfl rfl rfl rfl rfl rfl rfl rfl ?_
        refine rclP (p84 _ _ _) rfl rfl rfl rfl rfl rfl ?_ ?_ <;> intro h1_16
        · refine rpk (e := true) rfl rfl rfl rfl rfl rfl ?_
          refine raB rfl rfl rfl rfl rfl ?_
          refine rNil ?_
          refine qSeq ?_
          refine wRet ?_
          first | (refine finT rfl ?_; unfold An.OK; omega) | (refine finF rfl ?_; unfold An.OK; omega)
        · refine rpk (e := false) rfl rfl rfl rfl rfl rfl ?_
          refine raB rfl rfl rfl rfl rfl ?_
          refine rNil ?_
          refine qSeq ?_
          refine wRet ?_
          first | (refine finT rfl ?_; unfold An.OK; omega) | (refine finF rfl ?_; unfold An.OK; omega)
      · refine rpk (e := false) rfl rfl rfl rfl rfl rfl ?_
        refine rmB rfl rfl rfl rfl rfl ?_
        refine rSkip rfl rfl rfl ?_
        refine rSkip rfl rfl rfl ?_
        refine rSkip rfl rfl rfl ?_
        refine rpk (e := false) rfl rfl rfl rfl rfl rfl ?_
        refine raB rfl rfl rfl rfl rfl ?_
        refine rNil ?_
        refine qSeq ?_
        refine wRet ?_
        first | (refine finT rfl ?_; unfold An.OK; omega) | (refine finF rfl ?_; unfold An.OK; omega)
    · refine rpk (e := false) rfl rfl rfl rfl rfl rfl ?_
      refine rmB rfl rfl rfl rfl rfl ?_
      refine rSkip rfl rfl rfl ?_
      refine rSkip rfl rfl rfl ?_
      refine rSkip rfl rfl rfl ?_
      refine rpk (e := false) rfl rfl rfl rfl rfl rfl ?_
      refine rmB rfl rfl rfl rfl rfl ?_
      refine rSkip rfl rfl rfl ?_
      refine rSkip rfl rfl rfl ?_
      refine rSkip rfl rfl rfl ?_
      refine rpk (e := false) rfl rfl rfl rfl rfl rfl ?_
      refine raB rfl rfl rfl rfl rfl ?_
      refine rNil ?_
      refine qSeq ?_
      refine wRet ?_
      first | (refine finT rfl ?_; unfold An.OK; omega) | (refine finF rfl ?_; unfold An.OK; omega)
  · refine rmB rfl rfl rfl rfl rfl ?_
    refine rSkip rfl rfl rfl ?_
    refine rSkip rfl rfl rfl ?_
    refine rSkip rfl rfl rfl ?_
    refine rpk (e := false) rfl rfl rfl rfl rfl rfl ?_
    refine rmB rfl rfl rfl rfl rfl ?_
    refine rSkip rfl rfl rfl ?_
    refine rSkip rfl rfl rfl ?_
    refine rSkip rfl rfl rfl ?_
    refine rpk (e := false) rfl rfl rfl rfl rfl rfl ?_
    refine rmB rfl rfl rfl rfl rfl ?_
    refine rSkip rfl rfl rfl ?_
    refine rSkip rfl rfl rfl ?_
    refine rSkip rfl rfl rfl ?_
    refine rpk (e := false) rfl rfl rfl rfl rfl rfl ?_
    refine raB rfl rfl rfl rfl rfl ?_
    refine rNil ?_
    refine qSeq ?_
    refine wRet ?_
    first | (refine finT rfl ?_; unfold An.OK; omega) | (refine finF rfl ?_; unfold An.OK; omega)
theorem s42 (t : Tb) (b n1 n2 : Bool) : Pure En 42 [.agg (t.T b n1 n2)] [.one (.bool (decide t.OK))] := by
  have hl : (t.lk.map (Lk.T b)).length = t.lk.length := List.length_map ..
  have hl2 : (t.sn.map Sn.T).length = t.sn.length := List.length_map ..
  refine Pure.of_wp Try.func42 rfl (Nat.le_of_ble_eq_true rfl) ?_
  refine wSeq ?_
  refine wRegion ?_
  refine rbx (u := .agg [.int _ _, .int _ _, _, _]) rfl rfl rfl rfl rfl rfl rfl ?_
  refine raB rfl rfl rfl rfl rfl ?_
  refine rNil ?_
  refine qSeq ?_
  refine wSeq ?_
  refine wSeq ?_
  refine wRegion ?_
  refine rfa (off := 0) (s := 1) (r := false) rfl rfl rfl (Nat.succ_ne_zero _) rfl rfl rfl ?_
  (apply rlc (v := .int _ _) rfl rfl; (first | ((simp (disch := omega) only [↓app0, ↓appC, ↓updS, ↓updN, ↓hpS, ↓hpN]) <;> first | rfl | assumption) | assumption | rfl); rfl; rfl; rfl; rfl; rfl; rfl)
  refine rclP (p84 _ _ _) rfl rfl rfl rfl rfl rfl ?_ ?_ <;> intro h1_2
  · refine rnot (c := true) rfl rfl rfl rfl rfl ?_
    refine rmB rfl rfl rfl rfl rfl ?_
    refine rfa (off := 1) (s := 1) (r := false) rfl rfl rfl (Nat.succ_ne_zero _) rfl rfl rfl ?_
    (apply rlc (v := .int _ _) rfl rfl; (first | ((simp (disch := omega) only [↓app0, ↓appC, ↓updS, ↓updN, ↓hpS, ↓hpN]) <;> first | rfl | assumption) | assumption | rfl); rfl; rfl; rfl; rfl; rfl; rfl)
    refine rclP (p84 _ _ _) rfl rfl rfl rfl rfl rfl ?_ ?_ <;> intro h1_7
    · refine rnot (c := true) rfl rfl rfl rfl rfl ?_
      refine rpk (e := false) rfl rfl rfl rfl rfl rfl ?_
      refine rmB rfl rfl rfl rfl rfl ?_
      refine rfa (off := 2) (s := 1) (r := false) rfl rfl rfl (Nat.succ_ne_zero _) rfl rfl rfl ?_
      (apply rlc (v := .sl _ _ _) rfl rfl; (first | ((simp (disch := omega) only [↓app0, ↓appC, ↓updS, ↓updN, ↓hpS, ↓hpN]) <;> first | rfl | assumption) | assumption | rfl); rfl; rfl; rfl; rfl; rfl; rfl)
      refine rll rfl rfl rfl rfl rfl rfl ?_
      refine rgt rfl rfl rfl rfl rfl rfl ?_ ?_ <;> intro h1_14
      · refine rpk (e := true) rfl rfl rfl rfl rfl rfl ?_
        refine rmB rfl rfl rfl rfl rfl ?_
        refine rSkip rfl rfl rfl ?_
        refine rSkip rfl rfl rfl ?_
        refine rSkip rfl rfl rfl ?_
        refine rSkip rfl rfl rfl ?_
        refine rpk (e := true) rfl rfl rfl rfl rfl rfl ?_
        refine rNil ?_
        refine qSeq ?_
        refine wT rfl ?_
        refine wSeq ?_
        refine wRegion ?_
        refine raB rfl rfl rfl rfl rfl ?_
        refine rNil ?_
        refine qSeq ?_
        refine wRet ?_
        refine qSeqR ?_
        refine finF rfl fun hw => ?_; obtain ⟨w1, w2, w3, w4, w5, w6⟩ := hw; first | contradiction | omega
      · refine rpk (e := false) rfl rfl rfl rfl rfl rfl ?_
        refine rmB rfl rfl rfl rfl rfl ?_
        refine rfa (off := 3) (s := 1) (r := false) rfl rfl rfl (Nat.succ_ne_zero _) rfl rfl rfl ?_
        (apply rlc (v := .sl _ _ _) rfl rfl; (first | ((simp (disch := omega) only [↓app0, ↓appC, ↓updS, ↓updN, ↓hpS, ↓hpN]) <;> first | rfl | assumption) | assumption | rfl); rfl; rfl; rfl; rfl; rfl; rfl)
        refine rll rfl rfl rfl rfl rfl rfl ?_
        refine rgt rfl rfl rfl rfl rfl rfl ?_ ?_ <;> intro h1_20
        · refine rpk (e := true) rfl rfl rfl rfl rfl rfl ?_
          refine rNil ?_
          refine qSeq ?_
          refine wT rfl ?_
          refine wSeq ?_
          refine wRegion ?_
          refine raB rfl rfl rfl rfl rfl ?_
          refine rNil ?_
          refine qSeq ?_
          refine wRet ?_
          refine qSeqR ?_
          refine finF rfl fun hw => ?_; obtain ⟨w1, w2, w3, w4, w5, w6⟩ := hw; first | contradiction | omega
        · refine rpk (e := false) rfl rfl rfl rfl rfl rfl ?_
          refine rNil ?_
          refine qSeq ?_
          refine wF rfl ?_
          refine wSkip ?_
          refine qSeq ?_
          refine wSeq ?_
          refine wSeq ?_
          refine wRegion ?_
          refine raI rfl rfl rfl rfl rfl ?_
          refine rNil ?_
          refine qSeq ?_
          refine wBlock ?_
          refine wLoop ?_
          refine loopGo (fun (a : Nat × Nat) => [.unk, .ptr 0 0 0, .unk, .int .i64 a.1]) (fun (a : Nat × Nat) => hp [(0, ⟨[[.int .i64 t.tm, .int .i64 t.nx, .sl false n1 (t.lk.map (Lk.T b)), .sl false n2 (t.sn.map Sn.T)]], 4, 35⟩)]) (fun (a : Nat × Nat) => a.2) (fun (a : Nat × Nat) => a.1 ≤ t.lk.length ∧ (∀ j, j < a.1 → lkAt t j) ∧ 1 ≤ a.2) (fun (a : Nat × Nat) => t.lk.length - a.1) (0, 1) ?_ ?_ ?_ ?_ ?_
          · exact ⟨Nat.zero_le _, all0, Nat.le_refl _⟩
          · (repeat first | exact LE.nil _ | refine LE.unk _ _ ?_ | refine LE.eq _ _ _ rfl ?_)
          · (repeat first | exact lessH0 | (refine lessHc ?_ ?_; (first | (first | ((simp (disch := omega) only [↓app0, ↓appC, ↓updS, ↓updN, ↓hpS, ↓hpN]) <;> first | rfl | assumption) | assumption | rfl) | fail)))
          · exact Nat.le_refl _
          intro ⟨i0, m0⟩ hI ih
          dsimp only at hI ⊢
          have hK0 := hI
          have ih0 := ih
          have hlw : ((t.lk.getD i0 Lk0).ws.map wtT).length = (t.lk.getD i0 Lk0).ws.length := List.length_map ..
          refine lStep ?_
          refine wSeq ?_
          refine wSeq ?_
          refine wRegion ?_
          refine rmI rfl rfl rfl rfl rfl ?_
          refine rfa (off := 2) (s := 1) (r := false) rfl rfl rfl (Nat.succ_ne_zero _) rfl rfl rfl ?_
          (apply rlc (v := .sl _ _ _) rfl rfl; (first | ((simp (disch := omega) only [↓app0, ↓appC, ↓updS, ↓updN, ↓hpS, ↓hpN]) <;> first | rfl | assumption) | assumption | rfl); rfl; rfl; rfl; rfl; rfl; rfl)
          refine rll rfl rfl rfl rfl rfl rfl ?_
          refine rlt rfl rfl rfl rfl rfl rfl ?_ ?_ <;> intro h4_4
          · refine rNil ?_
            refine qSeq ?_
            refine wT rfl ?_
            refine wSkip ?_
            refine qSeq ?_
            refine wSeq ?_
            refine wBlock ?_
            refine wSeq ?_
            refine wRegion ?_
            refine rfa (off := 2) (s := 1) (r := false) rfl rfl rfl (Nat.succ_ne_zero _) rfl rfl rfl ?_
            (apply rlc (v := .sl _ _ _) rfl rfl; (first | ((simp (disch := omega) only [↓app0, ↓appC, ↓updS, ↓updN, ↓hpS, ↓hpN]) <;> first | rfl | assumption) | assumption | rfl); rfl; rfl; rfl; rfl; rfl; rfl)
            refine rmI rfl rfl rfl rfl rfl ?_
            (apply rixl rfl rfl rfl rfl; (first | omega | assumption | (focus (simp; omega))); (first | rfl | assumption | (first | exact getMap (Lk.T b) Lk0 (k := i0) (by omega) | exact getMap Sn.T Sn0 (k := i) (by omega) | exact getMap wtT (0, 0) (k := k) (by omega) | exact getMap wtT (0, 0) (k := q) (by omega) | exact getMap (Lk.T b) Lk0 (by omega) | exact getMap Sn.T Sn0 (by omega) | exact getMap wtT (0, 0) (by omega))); rfl; rfl; rfl; rfl)
            refine rlir (vs := [.str _, .int _ _, .int _ _, .int _ _, _]) rfl rfl rfl (Nat.le_of_ble_eq_true rfl) rfl rfl rfl rfl ?_
            refine ral rfl rfl rfl rfl rfl rfl ?_
            (apply rst (u := .agg [.str _, .int _ _, .int _ _, .int _ _, _]) rfl rfl rfl; (first | ((simp (disch := omega) only [↓app0, ↓appC, ↓updS, ↓updN, ↓hpS, ↓hpN]) <;> first | rfl | assumption) | assumption | rfl); rfl; rfl; rfl; rfl; rfl; (exact Nat.le_of_ble_eq_true rfl); rfl; rfl; rfl)
            refine rNil ?_
            refine qSeq ?_
            refine wSeq ?_
            refine wSeq ?_
            refine wDraw [0, 1, 3, 7, 15, 31, 63, 127, 255, 511, 255, 1279, 4095, 8191, 16383, 255, 33023, 131071, 262143, 524287, 1048575, 2097151, 4194303, 2097151, 10485759, 27262975, 67108863, 134217727, 268435455, 536870911, 1073741823, 2147483647, 4294967295, 8589934591, 17179869183, 34359738367, 68719476735, 137438953471, 274877906943, 549755813887, 1099511627775, 2199023255551, 4398046511103, 8796093022207, 17592186044415, 35184372088831, 70368744177663] rfl (by decide +kernel) ?_
            refine dfa (off := 0) (s := 1) (r := false) rfl rfl rfl (Nat.succ_ne_zero _) rfl rfl rfl ?_
            (apply dlc (v := .str _) rfl rfl; (first | ((simp (disch := omega) only [↓app0, ↓appC, ↓updS, ↓updN, ↓hpS, ↓hpN]) <;> first | rfl | assumption) | assumption | rfl); rfl; rfl; rfl; rfl; rfl; rfl)
            refine dclP (p85 _ _) rfl rfl rfl rfl rfl rfl ?_ ?_ <;> intro h7_2
            · refine dnot (c := true) rfl rfl rfl rfl rfl ?_
              refine dmB rfl rfl rfl rfl rfl ?_
              refine dmI rfl rfl rfl rfl rfl ?_
              refine dgt rfl rfl rfl rfl rfl rfl ?_ ?_ <;> intro h7_6
              · refine dmB rfl rfl rfl rfl rfl ?_
                refine dfa (off := 2) (s := 1) (r := false) rfl rfl rfl (Nat.succ_ne_zero _) rfl rfl rfl ?_
                (apply dlc (v := .sl _ _ _) rfl rfl; (first | ((simp (disch := omega) only [↓app0, ↓appC, ↓updS, ↓updN, ↓hpS, ↓hpN]) <;> first | rfl | assumption) | assumption | rfl); rfl; rfl; rfl; rfl; rfl; rfl)
                refine dmI rfl rfl rfl rfl rfl ?_
                refine dsubF rfl rfl rfl ?_ ?_ rfl rfl rfl ?_
                · (first | omega | assumption | (focus (simp; omega)))
                · (first | omega | assumption | (focus (simp; omega)))
                (apply dixl rfl rfl rfl rfl; (first | omega | assumption | (focus (simp; omega))); (first | rfl | assumption | (first | exact getMap (Lk.T b) Lk0 (k := i0) (by omega) | exact getMap Sn.T Sn0 (k := i) (by omega) | exact getMap wtT (0, 0) (k := k) (by omega) | exact getMap wtT (0, 0) (k := q) (by omega) | exact getMap (Lk.T b) Lk0 (by omega) | exact getMap Sn.T Sn0 (by omega) | exact getMap wtT (0, 0) (by omega))); rfl; rfl; rfl; rfl)
                refine dfai (off := 0) (s := 1) (r := false) rfl rfl rfl (Nat.succ_ne_zero _) rfl rfl rfl rfl ?_
                refine dlic (v := .str _) rfl rfl rfl rfl rfl rfl rfl rfl ?_
                refine dfa (off := 0) (s := 1) (r := false) rfl rfl rfl (Nat.succ_ne_zero _) rfl rfl rfl ?_
                (apply dlc (v := .str _) rfl rfl; (first | ((simp (disch := omega) only [↓app0, ↓appC, ↓updS, ↓updN, ↓hpS, ↓hpN]) <;> first | rfl | assumption) | assumption | rfl); rfl; rfl; rfl; rfl; rfl; rfl)
                refine dsge rfl rfl rfl rfl rfl rfl ?_ ?_ <;> intro h7_17
                · refine dpk (e := true) rfl rfl rfl rfl rfl rfl ?_
                  refine dpk (e := true) rfl rfl rfl rfl rfl rfl ?_
                  refine dmB rfl rfl rfl rfl rfl ?_
                  refine dSkip rfl rfl rfl ?_
                  refine dSkip rfl rfl rfl ?_
                  refine dSkip rfl rfl rfl ?_
                  refine dSkip rfl rfl rfl ?_
                  refine dSkip rfl rfl rfl ?_
                  refine dSkip rfl rfl rfl ?_
                  refine dSkip rfl rfl rfl ?_
                  refine dpk (e := true) rfl rfl rfl rfl rfl rfl ?_
                  refine dmB rfl rfl rfl rfl rfl ?_
                  refine dSkip rfl rfl rfl ?_
                  refine dSkip rfl rfl rfl ?_
                  refine dSkip rfl rfl rfl ?_
                  refine dSkip rfl rfl rfl ?_
                  refine dpk (e := true) rfl rfl rfl rfl rfl rfl ?_
                  refine dmB rfl rfl rfl rfl rfl ?_
                  refine dSkip rfl rfl rfl ?_
                  refine dSkip rfl rfl rfl ?_
                  refine dSkip rfl rfl rfl ?_
                  refine dSkip rfl rfl rfl ?_
                  refine dpk (e := true) rfl rfl rfl rfl rfl rfl ?_
                  refine dmB rfl rfl rfl rfl rfl ?_
                  refine dSkip rfl rfl rfl ?_
                  refine dSkip rfl rfl rfl ?_
                  refine dSkip rfl rfl rfl ?_
                  refine dSkip rfl rfl rfl ?_
                  refine dpk (e := true) rfl rfl rfl rfl rfl rfl ?_
                  refine dNilR 47 [0, 0, 0, 0, 0, 0, 0, 0, 0, 0, 0, 0, 0, 0, 0, 0, 0, 0, 0, 0, 0, 0, 0, 0, 0, 0, 0, 0, 0, 0, 1, 0, 0, 0, 0, 0, 0, 1, 0, 0, 0, 0, 0, 0, 0, 1, 0] [] rfl rfl (by decide +kernel) trivial ?_
                  refine qSeq ?_
                  refine wT rfl ?_
                  refine wSeq ?_
                  refine wRegion ?_
                  refine raB rfl rfl rfl rfl rfl ?_
                  refine rNil ?_
                  refine qSeq ?_
                  refine wRet ?_
                  refine qSeqR ?_
                  refine qBlockR ?_
                  refine qSeqR ?_
                  refine qLoopR ?_
                  refine qBlockR ?_
                  refine qSeqR ?_
                  refine finF rfl fun hw => ?_
                  obtain ⟨w1, w2, w3, w4, w5, w6⟩ := hw
                  obtain ⟨⟨v1, v2, v3, v4, v5, v6, v7⟩, v8⟩ := w5 i0 (by omega)
                  first
                  | omega
                  | exact h7_2 ⟨by have := v1.1; omega, v1.2⟩
                  | (have v9 := v8 (by omega); unfold ltS at v9; rw [pred_nat, v9] at h7_17; cases h7_17)
                · refine dpk (e := false) rfl rfl rfl rfl rfl rfl ?_
                  refine dpk (e := false) rfl rfl rfl rfl rfl rfl ?_
                  refine dmB rfl rfl rfl rfl rfl ?_
                  refine dfa (off := 1) (s := 1) (r := false) rfl rfl rfl (Nat.succ_ne_zero _) rfl rfl rfl ?_
                  (apply dlc (v := .int _ _) rfl rfl; (first | ((simp (disch := omega) only [↓app0, ↓appC, ↓updS, ↓updN, ↓hpS, ↓hpN]) <;> first | rfl | assumption) | assumption | rfl); rfl; rfl; rfl; rfl; rfl; rfl)
                  refine dfa (off := 1) (s := 1) (r := false) rfl rfl rfl (Nat.succ_ne_zero _) rfl rfl rfl ?_
                  (apply dlc (v := .int _ _) rfl rfl; (first | ((simp (disch := omega) only [↓app0, ↓appC, ↓updS, ↓updN, ↓hpS, ↓hpN]) <;> first | rfl | assumption) | assumption | rfl); rfl; rfl; rfl; rfl; rfl; rfl)
                  refine dsubF rfl rfl rfl ?_ ?_ rfl rfl rfl ?_
                  · (first | omega | assumption | (focus (simp; omega)))
                  · (first | omega | assumption | (focus (simp; omega)))
                  refine dclP (p84 _ _ _) rfl rfl rfl rfl rfl rfl ?_ ?_ <;> intro h7_26
                  · refine dnot (c := true) rfl rfl rfl rfl rfl ?_
                    refine dpk (e := false) rfl rfl rfl rfl rfl rfl ?_
                    refine dmB rfl rfl rfl rfl rfl ?_
                    refine dfa (off := 2) (s := 1) (r := false) rfl rfl rfl (Nat.succ_ne_zero _) rfl rfl rfl ?_
                    (apply dlc (v := .int _ _) rfl rfl; (first | ((simp (disch := omega) only [↓app0, ↓appC, ↓updS, ↓updN, ↓hpS, ↓hpN]) <;> first | rfl | assumption) | assumption | rfl); rfl; rfl; rfl; rfl; rfl; rfl)
                    refine dclP (p84 _ _ _) rfl rfl rfl rfl rfl rfl ?_ ?_ <;> intro h7_32
                    · refine dnot (c := true) rfl rfl rfl rfl rfl ?_
                      refine dpk (e := false) rfl rfl rfl rfl rfl rfl ?_
                      refine dmB rfl rfl rfl rfl rfl ?_
                      refine dfa (off := 3) (s := 1) (r := false) rfl rfl rfl (Nat.succ_ne_zero _) rfl rfl rfl ?_
                      (apply dlc (v := .int _ _) rfl rfl; (first | ((simp (disch := omega) only [↓app0, ↓appC, ↓updS, ↓updN, ↓hpS, ↓hpN]) <;> first | rfl | assumption) | assumption | rfl); rfl; rfl; rfl; rfl; rfl; rfl)
                      refine dclP (p84 _ _ _) rfl rfl rfl rfl rfl rfl ?_ ?_ <;> intro h7_38
                      · refine dnot (c := true) rfl rfl rfl rfl rfl ?_
                        refine dpk (e := false) rfl rfl rfl rfl rfl rfl ?_
                        refine dmB rfl rfl rfl rfl rfl ?_
                        refine dfa (off := 4) (s := 1) (r := false) rfl rfl rfl (Nat.succ_ne_zero _) rfl rfl rfl ?_
                        (apply dlc (v := .sl _ _ _) rfl rfl; (first | ((simp (disch := omega) only [↓app0, ↓appC, ↓updS, ↓updN, ↓hpS, ↓hpN]) <;> first | rfl | assumption) | assumption | rfl); rfl; rfl; rfl; rfl; rfl; rfl)
                        refine dll rfl rfl rfl rfl rfl rfl ?_
                        refine dgt rfl rfl rfl rfl rfl rfl ?_ ?_ <;> intro h7_45
                        · refine dpk (e := true) rfl rfl rfl rfl rfl rfl ?_
                          refine dNilR 47 [0, 0, 0, 1, 0, 0, 0, 0, 0, 1, 0, 0, 0, 0, 0, 1, 0, 0, 0, 0, 0, 0, 1, 0, 1, 0, 0, 0, 0, 0, 1, 0, 0, 0, 0, 0, 0, 1, 0, 0, 0, 0, 0, 0, 0, 1, 0] [] rfl rfl (by decide +kernel) trivial ?_
                          refine qSeq ?_
                          refine wT rfl ?_
                          refine wSeq ?_
                          refine wRegion ?_
                          refine raB rfl rfl rfl rfl rfl ?_
                          refine rNil ?_
                          refine qSeq ?_
                          refine wRet ?_
                          refine qSeqR ?_
                          refine qBlockR ?_
                          refine qSeqR ?_
                          refine qLoopR ?_
                          refine qBlockR ?_
                          refine qSeqR ?_
                          refine finF rfl fun hw => ?_
                          obtain ⟨w1, w2, w3, w4, w5, w6⟩ := hw
                          obtain ⟨⟨v1, v2, v3, v4, v5, v6, v7⟩, v8⟩ := w5 i0 (by omega)
                          first
                          | omega
                          | exact h7_2 ⟨by have := v1.1; omega, v1.2⟩
                          | (have v9 := v8 (by omega); unfold ltS at v9; rw [pred_nat, v9] at h7_17; cases h7_17)
                        · refine dpk (e := false) rfl rfl rfl rfl rfl rfl ?_
                          refine dNilR 47 [0, 0, 0, 1, 0, 0, 0, 0, 0, 1, 0, 0, 0, 0, 0, 1, 0, 0, 0, 0, 0, 0, 1, 0, 1, 0, 0, 0, 0, 0, 1, 0, 0, 0, 0, 0, 0, 1, 0, 0, 0, 0, 0, 0, 0, 1, 0] [] rfl rfl (by decide +kernel) trivial ?_
                          refine qSeq ?_
                          refine wF rfl ?_
                          refine wSkip ?_
                          refine qSeq ?_
                          refine wSeq ?_
                          refine wSeq ?_
                          refine wRegion ?_
                          refine rfa (off := 2) (s := 1) (r := false) rfl rfl rfl (Nat.succ_ne_zero _) rfl rfl rfl ?_
                          (apply rlc (v := .int _ _) rfl rfl; (first | ((simp (disch := omega) only [↓app0, ↓appC, ↓updS, ↓updN, ↓hpS, ↓hpN]) <;> first | rfl | assumption) | assumption | rfl); rfl; rfl; rfl; rfl; rfl; rfl)
                          refine rlt rfl rfl rfl rfl rfl rfl ?_ ?_ <;> intro h9_2
                          · refine rmB rfl rfl rfl rfl rfl ?_
                            refine rfa (off := 3) (s := 1) (r := false) rfl rfl rfl (Nat.succ_ne_zero _) rfl rfl rfl ?_
                            (apply rlc (v := .int _ _) rfl rfl; (first | ((simp (disch := omega) only [↓app0, ↓appC, ↓updS, ↓updN, ↓hpS, ↓hpN]) <;> first | rfl | assumption) | assumption | rfl); rfl; rfl; rfl; rfl; rfl; rfl)
                            refine rne rfl rfl rfl rfl rfl rfl ?_ ?_ <;> intro h9_6
                            · refine rmB rfl rfl rfl rfl rfl ?_
                              refine rSkip rfl rfl rfl ?_
                              refine rSkip rfl rfl rfl ?_
                              refine rSkip rfl rfl rfl ?_
                              refine rSkip rfl rfl rfl ?_
                              refine rpk (e := true) rfl rfl rfl rfl rfl rfl ?_
                              refine rpk (e := true) rfl rfl rfl rfl rfl rfl ?_
                              refine rNil ?_
                              refine qSeq ?_
                              refine wT rfl ?_
                              refine wSeq ?_
                              refine wRegion ?_
                              refine raB rfl rfl rfl rfl rfl ?_
                              refine rNil ?_
                              refine qSeq ?_
                              refine wRet ?_
                              refine qSeqR ?_
                              refine qBlockR ?_
                              refine qSeqR ?_
                              refine qLoopR ?_
                              refine qBlockR ?_
                              refine qSeqR ?_
                              refine finF rfl fun hw => ?_
                              obtain ⟨w1, w2, w3, w4, w5, w6⟩ := hw
                              obtain ⟨⟨v1, v2, v3, v4, v5, v6, v7⟩, v8⟩ := w5 i0 (by omega)
                              have v9 := v6 (by omega)
                              omega
                            · refine rmB rfl rfl rfl rfl rfl ?_
                              refine rfa (off := 4) (s := 1) (r := false) rfl rfl rfl (Nat.succ_ne_zero _) rfl rfl rfl ?_
                              (apply rlc (v := .sl _ _ _) rfl rfl; (first | ((simp (disch := omega) only [↓app0, ↓appC, ↓updS, ↓updN, ↓hpS, ↓hpN]) <;> first | rfl | assumption) | assumption | rfl); rfl; rfl; rfl; rfl; rfl; rfl)
                              refine rll rfl rfl rfl rfl rfl rfl ?_
                              refine rne rfl rfl rfl rfl rfl rfl ?_ ?_ <;> intro h9_11
                              · refine rpk (e := true) rfl rfl rfl rfl rfl rfl ?_
                                refine rpk (e := true) rfl rfl rfl rfl rfl rfl ?_
                                refine rNil ?_
                                refine qSeq ?_
                                refine wT rfl ?_
                                refine wSeq ?_
                                refine wRegion ?_
                                refine raB rfl rfl rfl rfl rfl ?_
                                refine rNil ?_
                                refine qSeq ?_
                                refine wRet ?_
                                refine qSeqR ?_
                                refine qBlockR ?_
                                refine qSeqR ?_
                                refine qLoopR ?_
                                refine qBlockR ?_
                                refine qSeqR ?_
                                refine finF rfl fun hw => ?_
                                obtain ⟨w1, w2, w3, w4, w5, w6⟩ := hw
                                obtain ⟨⟨v1, v2, v3, v4, v5, v6, v7⟩, v8⟩ := w5 i0 (by omega)
                                have v9 := v6 (by omega)
                                omega
                              · refine rpk (e := false) rfl rfl rfl rfl rfl rfl ?_
                                refine rpk (e := false) rfl rfl rfl rfl rfl rfl ?_
                                refine rNil ?_
                                refine qSeq ?_
                                refine wF rfl ?_
                                refine wSkip ?_
                                refine qSeq ?_
                                refine wSeq ?_
                                refine wRegion ?_
                                refine raI rfl rfl rfl rfl rfl ?_
                                refine rNil ?_
                                refine qSeq ?_
                                refine wBlock ?_
                                refine wLoop ?_
                                refine loopGo (fun (a : Nat × Nat) => [.unk, .ptr 0 0 0, .unk, .int .i64 i0, .ptr m0 0 0, .int .i64 a.1]) (fun (a : Nat × Nat) => hp [(0, ⟨[[.int .i64 t.tm, .int .i64 t.nx, .sl false n1 (t.lk.map (Lk.T b)), .sl false n2 (t.sn.map Sn.T)]], 4, 35⟩), (m0, ⟨[[.str (t.lk.getD i0 Lk0).nm, .int .i64 (t.lk.getD i0 Lk0).tk, .int .i64 (t.lk.getD i0 Lk0).hd, .int .i64 (t.lk.getD i0 Lk0).ex, .sl false b ((t.lk.getD i0 Lk0).ws.map wtT)]], 5, 29⟩)]) (fun (a : Nat × Nat) => a.2) (fun (a : Nat × Nat) => a.1 ≤ (t.lk.getD i0 Lk0).ws.length ∧ (∀ j, j < a.1 → wOK (t.lk.getD i0 Lk0) j) ∧ m0 < a.2) (fun (a : Nat × Nat) => (t.lk.getD i0 Lk0).ws.length - a.1) (0, m0 + 1) ?_ ?_ ?_ ?_ ?_
                                · exact ⟨Nat.zero_le _, all0, Nat.lt_succ_self _⟩
                                · (repeat first | exact LE.nil _ | refine LE.unk _ _ ?_ | refine LE.eq _ _ _ rfl ?_)
                                · (repeat first | exact lessH0 | (refine lessHc ?_ ?_; (first | (first | ((simp (disch := omega) only [↓app0, ↓appC, ↓updS, ↓updN, ↓hpS, ↓hpN]) <;> first | rfl | assumption) | assumption | rfl) | fail)))
                                · exact Nat.le_refl _
                                intro ⟨k, m1⟩ hI ih
                                dsimp only at hI ⊢
                                have hK1 := hI
                                have ih1 := ih
                                refine lStep ?_
                                refine wSeq ?_
                                refine wSeq ?_
                                refine wRegion ?_
                                refine rmI rfl rfl rfl rfl rfl ?_
                                refine rfa (off := 4) (s := 1) (r := false) rfl rfl rfl (Nat.succ_ne_zero _) rfl rfl rfl ?_
                                (apply rlc (v := .sl _ _ _) rfl rfl; (first | ((simp (disch := omega) only [↓app0, ↓appC, ↓updS, ↓updN, ↓hpS, ↓hpN]) <;> first | rfl | assumption) | assumption | rfl); rfl; rfl; rfl; rfl; rfl; rfl)
                                refine rll rfl rfl rfl rfl rfl rfl ?_
                                refine rlt rfl rfl rfl rfl rfl rfl ?_ ?_ <;> intro h12_4
                                · refine rNil ?_
                                  refine qSeq ?_
                                  refine wT rfl ?_
                                  refine wSkip ?_
                                  refine qSeq ?_
                                  refine wSeq ?_
                                  refine wBlock ?_
                                  refine wSeq ?_
                                  exact absurd h12_4 (by omega)
                                · refine rNil ?_
                                  refine qSeq ?_
                                  refine wF rfl ?_
                                  refine wExit ?_
                                  refine qSeqX ?_
                                  refine qLoopX ?_
                                  refine qBlockX ?_
                                  refine qBlock ?_
                                  refine qSeq ?_
                                  refine wRegion ?_
                                  refine rmI rfl rfl rfl rfl rfl ?_
                                  refine raddF rfl rfl rfl ?_ ?_ rfl rfl rfl ?_
                                  · (first | omega | assumption | (focus (simp; omega)))
                                  · (first | omega | assumption | (focus (simp; omega)))
                                  refine raI rfl rfl rfl rfl rfl ?_
                                  refine rNil ?_
                                  refine qLoop ?_
                                  refine wlH (ih0 (i0 + 1, m1) ⟨by dsimp only; omega, allS hK0.2.1 ⟨⟨⟨by have := h7_2.1; omega, h7_2.2⟩, by omega, by omega, by omega, by omega, fun he => by omega, fun j hj => hI.2.1 j (by omega)⟩, fun h0 => ?_⟩, by dsimp only; omega⟩ (by dsimp only; omega)) (by (repeat first | exact LE.nil _ | refine LE.unk _ _ ?_ | refine LE.eq _ _ _ rfl ?_)) (by (repeat first | exact lessH0 | (refine lessHc ?_ ?_; (first | (first | ((simp (disch := omega) only [↓app0, ↓appC, ↓updS, ↓updN, ↓hpS, ↓hpN]) <;> first | rfl | assumption) | assumption | rfl) | fail)))) (Nat.le_refl _)
                                  first | omega | (rw [pred_nat] at h7_17; unfold ltS; simpa using h7_17)
                          · refine rmB rfl rfl rfl rfl rfl ?_
                            refine rSkip rfl rfl rfl ?_
                            refine rSkip rfl rfl rfl ?_
                            refine rSkip rfl rfl rfl ?_
                            refine rSkip rfl rfl rfl ?_
                            refine rSkip rfl rfl rfl ?_
                            refine rSkip rfl rfl rfl ?_
                            refine rSkip rfl rfl rfl ?_
                            refine rSkip rfl rfl rfl ?_
                            refine rSkip rfl rfl rfl ?_
                            refine rpk (e := false) rfl rfl rfl rfl rfl rfl ?_
                            refine rNil ?_
                            refine qSeq ?_
                            refine wF rfl ?_
                            refine wSkip ?_
                            refine qSeq ?_
                            refine wSeq ?_
                            refine wRegion ?_
                            refine raI rfl rfl rfl rfl rfl ?_
                            refine rNil ?_
                            refine qSeq ?_
                            refine wBlock ?_
                            refine wLoop ?_
                            refine loopGo (fun (a : Nat × Nat) => [.unk, .ptr 0 0 0, .unk, .int .i64 i0, .ptr m0 0 0, .int .i64 a.1]) (fun (a : Nat × Nat) => hp [(0, ⟨[[.int .i64 t.tm, .int .i64 t.nx, .sl false n1 (t.lk.map (Lk.T b)), .sl false n2 (t.sn.map Sn.T)]], 4, 35⟩), (m0, ⟨[[.str (t.lk.getD i0 Lk0).nm, .int .i64 (t.lk.getD i0 Lk0).tk, .int .i64 (t.lk.getD i0 Lk0).hd, .int .i64 (t.lk.getD i0 Lk0).ex, .sl false b ((t.lk.getD i0 Lk0).ws.map wtT)]], 5, 29⟩)]) (fun (a : Nat × Nat) => a.2) (fun (a : Nat × Nat) => a.1 ≤ (t.lk.getD i0 Lk0).ws.length ∧ (∀ j, j < a.1 → wOK (t.lk.getD i0 Lk0) j) ∧ m0 < a.2) (fun (a : Nat × Nat) => (t.lk.getD i0 Lk0).ws.length - a.1) (0, m0 + 1) ?_ ?_ ?_ ?_ ?_
                            · exact ⟨Nat.zero_le _, all0, Nat.lt_succ_self _⟩
                            · (repeat first | exact LE.nil _ | refine LE.unk _ _ ?_ | refine LE.eq _ _ _ rfl ?_)
                            · (repeat first | exact lessH0 | (refine lessHc ?_ ?_; (first | (first | ((simp (disch := omega) only [↓app0, ↓appC, ↓updS, ↓updN, ↓hpS, ↓hpN]) <;> first | rfl | assumption) | assumption | rfl) | fail)))
                            · exact Nat.le_refl _
                            intro ⟨k, m1⟩ hI ih
                            dsimp only at hI ⊢
                            have hK1 := hI
                            have ih1 := ih
                            refine lStep ?_
                            refine wSeq ?_
                            refine wSeq ?_
                            refine wRegion ?_
                            refine rmI rfl rfl rfl rfl rfl ?_
                            refine rfa (off := 4) (s := 1) (r := false) rfl rfl rfl (Nat.succ_ne_zero _) rfl rfl rfl ?_
                            (apply rlc (v := .sl _ _ _) rfl rfl; (first | ((simp (disch := omega) only [↓app0, ↓appC, ↓updS, ↓updN, ↓hpS, ↓hpN]) <;> first | rfl | assumption) | assumption | rfl); rfl; rfl; rfl; rfl; rfl; rfl)
                            refine rll rfl rfl rfl rfl rfl rfl ?_
                            refine rlt rfl rfl rfl rfl rfl rfl ?_ ?_ <;> intro h12_4
                            · refine rNil ?_
                              refine qSeq ?_
                              refine wT rfl ?_
                              refine wSkip ?_
                              refine qSeq ?_
                              refine wSeq ?_
                              refine wBlock ?_
                              refine wSeq ?_
                              refine wRegion ?_
                              refine rfa (off := 4) (s := 1) (r := false) rfl rfl rfl (Nat.succ_ne_zero _) rfl rfl rfl ?_
                              (apply rlc (v := .sl _ _ _) rfl rfl; (first | ((simp (disch := omega) only [↓app0, ↓appC, ↓updS, ↓updN, ↓hpS, ↓hpN]) <;> first | rfl | assumption) | assumption | rfl); rfl; rfl; rfl; rfl; rfl; rfl)
                              refine rmI rfl rfl rfl rfl rfl ?_
                              (apply rixl rfl rfl rfl rfl; (first | omega | assumption | (focus (simp; omega))); (first | rfl | assumption | (first | exact getMap (Lk.T b) Lk0 (k := i0) (by omega) | exact getMap Sn.T Sn0 (k := i) (by omega) | exact getMap wtT (0, 0) (k := k) (by omega) | exact getMap wtT (0, 0) (k := q) (by omega) | exact getMap (Lk.T b) Lk0 (by omega) | exact getMap Sn.T Sn0 (by omega) | exact getMap wtT (0, 0) (by omega))); rfl; rfl; rfl; rfl)
                              refine rlir (vs := [.int _ _, .int _ _]) rfl rfl rfl (Nat.le_of_ble_eq_true rfl) rfl rfl rfl rfl ?_
                              refine ral rfl rfl rfl rfl rfl rfl ?_
                              (apply rst (u := .agg [.int _ _, .int _ _]) rfl rfl rfl; (first | ((simp (disch := omega) only [↓app0, ↓appC, ↓updS, ↓updN, ↓hpS, ↓hpN]) <;> first | rfl | assumption) | assumption | rfl); rfl; rfl; rfl; rfl; rfl; (exact Nat.le_of_ble_eq_true rfl); rfl; rfl; rfl)
                              refine rNil ?_
                              refine qSeq ?_
                              refine wSeq ?_
                              refine wSeq ?_
                              refine wRegion ?_
                              refine rfa (off := 0) (s := 1) (r := false) rfl rfl rfl (Nat.succ_ne_zero _) rfl rfl rfl ?_
                              (apply rlc (v := .int _ _) rfl rfl; (first | ((simp (disch := omega) only [↓app0, ↓appC, ↓updS, ↓updN, ↓hpS, ↓hpN]) <;> first | rfl | assumption) | assumption | rfl); rfl; rfl; rfl; rfl; rfl; rfl)
                              refine rclP (p84 _ _ _) rfl rfl rfl rfl rfl rfl ?_ ?_ <;> intro h15_2
                              · refine rnot (c := true) rfl rfl rfl rfl rfl ?_
                                refine rmB rfl rfl rfl rfl rfl ?_
                                refine rfa (off := 1) (s := 1) (r := false) rfl rfl rfl (Nat.succ_ne_zero _) rfl rfl rfl ?_
                                (apply rlc (v := .int _ _) rfl rfl; (first | ((simp (disch := omega) only [↓app0, ↓appC, ↓updS, ↓updN, ↓hpS, ↓hpN]) <;> first | rfl | assumption) | assumption | rfl); rfl; rfl; rfl; rfl; rfl; rfl)
                                refine rclP (p84 _ _ _) rfl rfl rfl rfl rfl rfl ?_ ?_ <;> intro h15_7
                                · refine rnot (c := true) rfl rfl rfl rfl rfl ?_
                                  refine rpk (e := false) rfl rfl rfl rfl rfl rfl ?_
                                  refine rmB rfl rfl rfl rfl rfl ?_
                                  refine rfa (off := 0) (s := 1) (r := false) rfl rfl rfl (Nat.succ_ne_zero _) rfl rfl rfl ?_
                                  (apply rlc (v := .int _ _) rfl rfl; (first | ((simp (disch := omega) only [↓app0, ↓appC, ↓updS, ↓updN, ↓hpS, ↓hpN]) <;> first | rfl | assumption) | assumption | rfl); rfl; rfl; rfl; rfl; rfl; rfl)
                                  refine rfa (off := 2) (s := 1) (r := false) rfl rfl rfl (Nat.succ_ne_zero _) rfl rfl rfl ?_
                                  (apply rlc (v := .int _ _) rfl rfl; (first | ((simp (disch := omega) only [↓app0, ↓appC, ↓updS, ↓updN, ↓hpS, ↓hpN]) <;> first | rfl | assumption) | assumption | rfl); rfl; rfl; rfl; rfl; rfl; rfl)
                                  refine req rfl rfl rfl rfl rfl rfl ?_ ?_ <;> intro h15_15
                                  · refine rpk (e := true) rfl rfl rfl rfl rfl rfl ?_
                                    refine rNil ?_
                                    refine qSeq ?_
                                    refine wT rfl ?_
                                    refine wSeq ?_
                                    refine wRegion ?_
                                    refine raB rfl rfl rfl rfl rfl ?_
                                    refine rNil ?_
                                    refine qSeq ?_
                                    refine wRet ?_
                                    refine qSeqR ?_
                                    refine qBlockR ?_
                                    refine qSeqR ?_
                                    refine qLoopR ?_
                                    refine qBlockR ?_
                                    refine qBlockR ?_
                                    refine qSeqR ?_
                                    refine qLoopR ?_
                                    refine qBlockR ?_
                                    refine qSeqR ?_
                                    refine finF rfl fun hw => ?_
                                    obtain ⟨w1, w2, w3, w4, w5, w6⟩ := hw
                                    obtain ⟨⟨v1, v2, v3, v4, v5, v6, v7⟩, v8⟩ := w5 i0 (by omega)
                                    obtain ⟨u1, u2, u3, u4⟩ := v7 k (by omega)
                                    first | omega | contradiction
                                  · refine rpk (e := false) rfl rfl rfl rfl rfl rfl ?_
                                    refine rNil ?_
                                    refine qSeq ?_
                                    refine wF rfl ?_
                                    refine wSkip ?_
                                    refine qSeq ?_
                                    refine wSeq ?_
                                    refine wRegion ?_
                                    refine raI rfl rfl rfl rfl rfl ?_
                                    refine rNil ?_
                                    refine qSeq ?_
                                    refine wBlock ?_
                                    refine wLoop ?_
                                    refine loopGo (fun (q : Nat) => [.unk, .ptr 0 0 0, .unk, .int .i64 i0, .ptr m0 0 0, .int .i64 k, .ptr m1 0 0, .int .i64 q]) (fun (q : Nat) => hp [(0, ⟨[[.int .i64 t.tm, .int .i64 t.nx, .sl false n1 (t.lk.map (Lk.T b)), .sl false n2 (t.sn.map Sn.T)]], 4, 35⟩), (m0, ⟨[[.str (t.lk.getD i0 Lk0).nm, .int .i64 (t.lk.getD i0 Lk0).tk, .int .i64 (t.lk.getD i0 Lk0).hd, .int .i64 (t.lk.getD i0 Lk0).ex, .sl false b ((t.lk.getD i0 Lk0).ws.map wtT)]], 5, 29⟩), (m1, ⟨[[.int .i64 ((t.lk.getD i0 Lk0).ws.getD k (0, 0)).1, .int .i64 ((t.lk.getD i0 Lk0).ws.getD k (0, 0)).2]], 2, 123⟩)]) (fun (q : Nat) => m1 + 1) (fun (q : Nat) => q ≤ k ∧ ∀ j, j < q → ¬ ((t.lk.getD i0 Lk0).ws.getD j (0, 0)).1 = ((t.lk.getD i0 Lk0).ws.getD k (0, 0)).1) (fun (q : Nat) => k - q) 0 ?_ ?_ ?_ ?_ ?_
                                    · exact ⟨Nat.zero_le _, all0⟩
                                    · (repeat first | exact LE.nil _ | refine LE.unk _ _ ?_ | refine LE.eq _ _ _ rfl ?_)
                                    · (repeat first | exact lessH0 | (refine lessHc ?_ ?_; (first | (first | ((simp (disch := omega) only [↓app0, ↓appC, ↓updS, ↓updN, ↓hpS, ↓hpN]) <;> first | rfl | assumption) | assumption | rfl) | fail)))
                                    · exact Nat.le_refl _
                                    intro q hI ih
                                    refine lStep ?_
                                    refine wSeq ?_
                                    refine wSeq ?_
                                    refine wRegion ?_
                                    refine rmI rfl rfl rfl rfl rfl ?_
                                    refine rmI rfl rfl rfl rfl rfl ?_
                                    refine rlt rfl rfl rfl rfl rfl rfl ?_ ?_ <;> intro h18_2
                                    · refine rNil ?_
                                      refine qSeq ?_
                                      refine wT rfl ?_
                                      refine wSkip ?_
                                      refine qSeq ?_
                                      refine wSeq ?_
                                      refine wBlock ?_
                                      refine wSeq ?_
                                      refine wDraw [0, 1, 0, 7, 15, 31, 0, 64, 255] rfl (by decide +kernel) ?_
                                      refine dfa (off := 4) (s := 1) (r := false) rfl rfl rfl (Nat.succ_ne_zero _) rfl rfl rfl ?_
                                      (apply dlc (v := .sl _ _ _) rfl rfl; (first | ((simp (disch := omega) only [↓app0, ↓appC, ↓updS, ↓updN, ↓hpS, ↓hpN]) <;> first | rfl | assumption) | assumption | rfl); rfl; rfl; rfl; rfl; rfl; rfl)
                                      refine dmI rfl rfl rfl rfl rfl ?_
                                      (apply dixl rfl rfl rfl rfl; (first | omega | assumption | (focus (simp; omega))); (first | rfl | assumption | (first | exact getMap (Lk.T b) Lk0 (k := i0) (by omega) | exact getMap Sn.T Sn0 (k := i) (by omega) | exact getMap wtT (0, 0) (k := k) (by omega) | exact getMap wtT (0, 0) (k := q) (by omega) | exact getMap (Lk.T b) Lk0 (by omega) | exact getMap Sn.T Sn0 (by omega) | exact getMap wtT (0, 0) (by omega))); rfl; rfl; rfl; rfl)
                                      refine dfai (off := 0) (s := 1) (r := false) rfl rfl rfl (Nat.succ_ne_zero _) rfl rfl rfl rfl ?_
                                      refine dlic (v := .int _ _) rfl rfl rfl rfl rfl rfl rfl rfl ?_
                                      refine dfa (off := 0) (s := 1) (r := false) rfl rfl rfl (Nat.succ_ne_zero _) rfl rfl rfl ?_
                                      (apply dlc (v := .int _ _) rfl rfl; (first | ((simp (disch := omega) only [↓app0, ↓appC, ↓updS, ↓updN, ↓hpS, ↓hpN]) <;> first | rfl | assumption) | assumption | rfl); rfl; rfl; rfl; rfl; rfl; rfl)
                                      refine deq rfl rfl rfl rfl rfl rfl ?_ ?_ <;> intro h20_8
                                      · refine dNilR 9 [0, 1, 0, 0, 0, 0, 0, 1, 0] [] rfl rfl (by decide +kernel) trivial ?_
                                        refine qSeq ?_
                                        refine wT rfl ?_
                                        refine wSeq ?_
                                        refine wRegion ?_
                                        refine raB rfl rfl rfl rfl rfl ?_
                                        refine rNil ?_
                                        refine qSeq ?_
                                        refine wRet ?_
                                        refine qBlockR ?_
                                        refine qSeqR ?_
                                        refine qLoopR ?_
                                        refine qBlockR ?_
                                        refine qBlockR ?_
                                        refine qSeqR ?_
                                        refine qLoopR ?_
                                        refine qBlockR ?_
                                        refine qBlockR ?_
                                        refine qSeqR ?_
                                        refine qLoopR ?_
                                        refine qBlockR ?_
                                        refine qSeqR ?_
                                        refine finF rfl fun hw => ?_
                                        obtain ⟨w1, w2, w3, w4, w5, w6⟩ := hw
                                        obtain ⟨⟨v1, v2, v3, v4, v5, v6, v7⟩, v8⟩ := w5 i0 (by omega)
                                        obtain ⟨u1, u2, u3, u4⟩ := v7 k (by omega)
                                        exact u4 q (by omega) h20_8
                                      · refine dNilR 9 [0, 1, 0, 0, 0, 0, 0, 1, 0] [] rfl rfl (by decide +kernel) trivial ?_
                                        refine qSeq ?_
                                        refine wF rfl ?_
                                        refine wSkip ?_
                                        refine qBlock ?_
                                        refine qSeq ?_
                                        refine wRegion ?_
                                        refine rmI rfl rfl rfl rfl rfl ?_
                                        refine raddF rfl rfl rfl ?_ ?_ rfl rfl rfl ?_
                                        · (first | omega | assumption | (focus (simp; omega)))
                                        · (first | omega | assumption | (focus (simp; omega)))
                                        refine raI rfl rfl rfl rfl rfl ?_
                                        refine rNil ?_
                                        refine qLoop ?_
                                        exact wlH (ih (q + 1) ⟨by omega, allS hI.2 h20_8⟩ (by omega)) (by (repeat first | exact LE.nil _ | refine LE.unk _ _ ?_ | refine LE.eq _ _ _ rfl ?_)) (by (repeat first | exact lessH0 | (refine lessHc ?_ ?_; (first | (first | ((simp (disch := omega) only [↓app0, ↓appC, ↓updS, ↓updN, ↓hpS, ↓hpN]) <;> first | rfl | assumption) | assumption | rfl) | fail)))) (Nat.le_refl _)
                                    · refine rNil ?_
                                      refine qSeq ?_
                                      refine wF rfl ?_
                                      refine wExit ?_
                                      refine qSeqX ?_
                                      refine qLoopX ?_
                                      refine qBlockX ?_
                                      refine qBlock ?_
                                      refine qSeq ?_
                                      refine wRegion ?_
                                      refine rmI rfl rfl rfl rfl rfl ?_
                                      refine raddF rfl rfl rfl ?_ ?_ rfl rfl rfl ?_
                                      · (first | omega | assumption | (focus (simp; omega)))
                                      · (first | omega | assumption | (focus (simp; omega)))
                                      refine raI rfl rfl rfl rfl rfl ?_
                                      refine rNil ?_
                                      refine qLoop ?_
                                      exact wlH (ih1 (k + 1, m1 + 1) ⟨by dsimp only; omega, allS hK1.2.1 ⟨h15_2, by assumption, h15_7, fun j hj => hI.2 j (by omega)⟩, by dsimp only; omega⟩ (by dsimp only; omega)) (by (repeat first | exact LE.nil _ | refine LE.unk _ _ ?_ | refine LE.eq _ _ _ rfl ?_)) (by (repeat first | exact lessH0 | (refine lessHc ?_ ?_; (first | (first | ((simp (disch := omega) only [↓app0, ↓appC, ↓updS, ↓updN, ↓hpS, ↓hpN]) <;> first | rfl | assumption) | assumption | rfl) | fail)))) (Nat.le_refl _)
                                · refine rnot (c := false) rfl rfl rfl rfl rfl ?_
                                  refine rpk (e := true) rfl rfl rfl rfl rfl rfl ?_
                                  refine rmB rfl rfl rfl rfl rfl ?_
                                  refine rSkip rfl rfl rfl ?_
                                  refine rSkip rfl rfl rfl ?_
                                  refine rSkip rfl rfl rfl ?_
                                  refine rSkip rfl rfl rfl ?_
                                  refine rSkip rfl rfl rfl ?_
                                  refine rpk (e := true) rfl rfl rfl rfl rfl rfl ?_
                                  refine rNil ?_
                                  refine qSeq ?_
                                  refine wT rfl ?_
                                  refine wSeq ?_
                                  refine wRegion ?_
                                  refine raB rfl rfl rfl rfl rfl ?_
                                  refine rNil ?_
                                  refine qSeq ?_
                                  refine wRet ?_
                                  refine qSeqR ?_
                                  refine qBlockR ?_
                                  refine qSeqR ?_
                                  refine qLoopR ?_
                                  refine qBlockR ?_
                                  refine qBlockR ?_
                                  refine qSeqR ?_
                                  refine qLoopR ?_
                                  refine qBlockR ?_
                                  refine qSeqR ?_
                                  refine finF rfl fun hw => ?_
                                  obtain ⟨w1, w2, w3, w4, w5, w6⟩ := hw
                                  obtain ⟨⟨v1, v2, v3, v4, v5, v6, v7⟩, v8⟩ := w5 i0 (by omega)
                                  obtain ⟨u1, u2, u3, u4⟩ := v7 k (by omega)
                                  first | omega | contradiction
                              · refine rnot (c := false) rfl rfl rfl rfl rfl ?_
                                refine rmB rfl rfl rfl rfl rfl ?_
                                refine rSkip rfl rfl rfl ?_
                                refine rSkip rfl rfl rfl ?_
                                refine rSkip rfl rfl rfl ?_
                                refine rSkip rfl rfl rfl ?_
                                refine rpk (e := true) rfl rfl rfl rfl rfl rfl ?_
                                refine rmB rfl rfl rfl rfl rfl ?_
                                refine rSkip rfl rfl rfl ?_
                                refine rSkip rfl rfl rfl ?_
                                refine rSkip rfl rfl rfl ?_
                                refine rSkip rfl rfl rfl ?_
                                refine rSkip rfl rfl rfl ?_
                                refine rpk (e := true) rfl rfl rfl rfl rfl rfl ?_
                                refine rNil ?_
                                refine qSeq ?_
                                refine wT rfl ?_
                                refine wSeq ?_
                                refine wRegion ?_
                                refine raB rfl rfl rfl rfl rfl ?_
                                refine rNil ?_
                                refine qSeq ?_
                                refine wRet ?_
                                refine qSeqR ?_
                                refine qBlockR ?_
                                refine qSeqR ?_
                                refine qLoopR ?_
                                refine qBlockR ?_
                                refine qBlockR ?_
                                refine qSeqR ?_
                                refine qLoopR ?_
                                refine qBlockR ?_
                                refine qSeqR ?_
                                refine finF rfl fun hw => ?_
                                obtain ⟨w1, w2, w3, w4, w5, w6⟩ := hw
                                obtain ⟨⟨v1, v2, v3, v4, v5, v6, v7⟩, v8⟩ := w5 i0 (by omega)
                                obtain ⟨u1, u2, u3, u4⟩ := v7 k (by omega)
                                first | omega | contradiction
                            · refine rNil ?_
                              refine qSeq ?_
                              refine wF rfl ?_
                              refine wExit ?_
                              refine qSeqX ?_
                              refine qLoopX ?_
                              refine qBlockX ?_
                              refine qBlock ?_
                              refine qSeq ?_
                              refine wRegion ?_
                              refine rmI rfl rfl rfl rfl rfl ?_
                              refine raddF rfl rfl rfl ?_ ?_ rfl rfl rfl ?_
                              · (first | omega | assumption | (focus (simp; omega)))
                              · (first | omega | assumption | (focus (simp; omega)))
                              refine raI rfl rfl rfl rfl rfl ?_
                              refine rNil ?_
                              refine qLoop ?_
                              refine wlH (ih0 (i0 + 1, m1) ⟨by dsimp only; omega, allS hK0.2.1 ⟨⟨⟨by have := h7_2.1; omega, h7_2.2⟩, by omega, by omega, by omega, by omega, fun he => by omega, fun j hj => hI.2.1 j (by omega)⟩, fun h0 => ?_⟩, by dsimp only; omega⟩ (by dsimp only; omega)) (by (repeat first | exact LE.nil _ | refine LE.unk _ _ ?_ | refine LE.eq _ _ _ rfl ?_)) (by (repeat first | exact lessH0 | (refine lessHc ?_ ?_; (first | (first | ((simp (disch := omega) only [↓app0, ↓appC, ↓updS, ↓updN, ↓hpS, ↓hpN]) <;> first | rfl | assumption) | assumption | rfl) | fail)))) (Nat.le_refl _)
                              first | omega | (rw [pred_nat] at h7_17; unfold ltS; simpa using h7_17)
                      · refine dnot (c := false) rfl rfl rfl rfl rfl ?_
                        refine dpk (e := true) rfl rfl rfl rfl rfl rfl ?_
                        refine dmB rfl rfl rfl rfl rfl ?_
                        refine dSkip rfl rfl rfl ?_
                        refine dSkip rfl rfl rfl ?_
                        refine dSkip rfl rfl rfl ?_
                        refine dSkip rfl rfl rfl ?_
                        refine dpk (e := true) rfl rfl rfl rfl rfl rfl ?_
                        refine dNilR 47 [0, 0, 0, 0, 0, 0, 0, 0, 0, 1, 0, 0, 0, 0, 0, 1, 0, 0, 0, 0, 0, 0, 1, 0, 1, 0, 0, 0, 0, 0, 1, 0, 0, 0, 0, 0, 0, 1, 0, 0, 0, 0, 0, 0, 0, 1, 0] [] rfl rfl (by decide +kernel) trivial ?_
                        refine qSeq ?_
                        refine wT rfl ?_
                        refine wSeq ?_
                        refine wRegion ?_
                        refine raB rfl rfl rfl rfl rfl ?_
                        refine rNil ?_
                        refine qSeq ?_
                        refine wRet ?_
                        refine qSeqR ?_
                        refine qBlockR ?_
                        refine qSeqR ?_
                        refine qLoopR ?_
                        refine qBlockR ?_
                        refine qSeqR ?_
                        refine finF rfl fun hw => ?_
                        obtain ⟨w1, w2, w3, w4, w5, w6⟩ := hw
                        obtain ⟨⟨v1, v2, v3, v4, v5, v6, v7⟩, v8⟩ := w5 i0 (by omega)
                        first
                        | omega
                        | exact h7_2 ⟨by have := v1.1; omega, v1.2⟩
                        | (have v9 := v8 (by omega); unfold ltS at v9; rw [pred_nat, v9] at h7_17; cases h7_17)
                    · refine dnot (c := false) rfl rfl rfl rfl rfl ?_
                      refine dpk (e := true) rfl rfl rfl rfl rfl rfl ?_
                      refine dmB rfl rfl rfl rfl rfl ?_
                      refine dSkip rfl rfl rfl ?_
                      refine dSkip rfl rfl rfl ?_
                      refine dSkip rfl rfl rfl ?_
                      refine dSkip rfl rfl rfl ?_
                      refine dpk (e := true) rfl rfl rfl rfl rfl rfl ?_
                      refine dmB rfl rfl rfl rfl rfl ?_
                      refine dSkip rfl rfl rfl ?_
                      refine dSkip rfl rfl rfl ?_
                      refine dSkip rfl rfl rfl ?_
                      refine dSkip rfl rfl rfl ?_
                      refine dpk (e := true) rfl rfl rfl rfl rfl rfl ?_
                      refine dNilR 47 [0, 0, 0, 0, 0, 0, 0, 0, 0, 0, 0, 0, 0, 0, 0, 1, 0, 0, 0, 0, 0, 0, 1, 0, 1, 0, 0, 0, 0, 0, 1, 0, 0, 0, 0, 0, 0, 1, 0, 0, 0, 0, 0, 0, 0, 1, 0] [] rfl rfl (by decide +kernel) trivial ?_
                      refine qSeq ?_
                      refine wT rfl ?_
                      refine wSeq ?_
                      refine wRegion ?_
                      refine raB rfl rfl rfl rfl rfl ?_
                      refine rNil ?_
                      refine qSeq ?_
                      refine wRet ?_
                      refine qSeqR ?_
                      refine qBlockR ?_
                      refine qSeqR ?_
                      refine qLoopR ?_
                      refine qBlockR ?_
                      refine qSeqR ?_
                      refine finF rfl fun hw => ?_
                      obtain ⟨w1, w2, w3, w4, w5, w6⟩ := hw
                      obtain ⟨⟨v1, v2, v3, v4, v5, v6, v7⟩, v8⟩ := w5 i0 (by omega)
                      first
                      | omega
                      | exact h7_2 ⟨by have := v1.1; omega, v1.2⟩
                      | (have v9 := v8 (by omega); unfold ltS at v9; rw [pred_nat, v9] at h7_17; cases h7_17)
                  · refine dnot (c := false) rfl rfl rfl rfl rfl ?_
                    refine dpk (e := true) rfl rfl rfl rfl rfl rfl ?_
                    refine dmB rfl rfl rfl rfl rfl ?_
                    refine dSkip rfl rfl rfl ?_
                    refine dSkip rfl rfl rfl ?_
                    refine dSkip rfl rfl rfl ?_
                    refine dSkip rfl rfl rfl ?_
                    refine dpk (e := true) rfl rfl rfl rfl rfl rfl ?_
                    refine dmB rfl rfl rfl rfl rfl ?_
                    refine dSkip rfl rfl rfl ?_
                    refine dSkip rfl rfl rfl ?_
                    refine dSkip rfl rfl rfl ?_
                    refine dSkip rfl rfl rfl ?_
                    refine dpk (e := true) rfl rfl rfl rfl rfl rfl ?_
                    refine dmB rfl rfl rfl rfl rfl ?_
                    refine dSkip rfl rfl rfl ?_
                    refine dSkip rfl rfl rfl ?_
                    refine dSkip rfl rfl rfl ?_
                    refine dSkip rfl rfl rfl ?_
                    refine dpk (e := true) rfl rfl rfl rfl rfl rfl ?_
                    refine dNilR 47 [0, 0, 0, 0, 0, 0, 0, 0, 0, 0, 0, 0, 0, 0, 0, 0, 0, 0, 0, 0, 0, 0, 1, 0, 1, 0, 0, 0, 0, 0, 1, 0, 0, 0, 0, 0, 0, 1, 0, 0, 0, 0, 0, 0, 0, 1, 0] [] rfl rfl (by decide +kernel) trivial ?_
                    refine qSeq ?_
                    refine wT rfl ?_
                    refine wSeq ?_
                    refine wRegion ?_
                    refine raB rfl rfl rfl rfl rfl ?_
                    refine rNil ?_
                    refine qSeq ?_
                    refine wRet ?_
                    refine qSeqR ?_
                    refine qBlockR ?_
                    refine qSeqR ?_
                    refine qLoopR ?_
                    refine qBlockR ?_
                    refine qSeqR ?_
                    refine finF rfl fun hw => ?_
                    obtain ⟨w1, w2, w3, w4, w5, w6⟩ := hw
                    obtain ⟨⟨v1, v2, v3, v4, v5, v6, v7⟩, v8⟩ := w5 i0 (by omega)
                    first
                    | omega
                    | exact h7_2 ⟨by have := v1.1; omega, v1.2⟩
                    | (have v9 := v8 (by omega); unfold ltS at v9; rw [pred_nat, v9] at h7_17; cases h7_17)
              · refine dmB rfl rfl rfl rfl rfl ?_
                refine dSkip rfl rfl rfl ?_
                refine dSkip rfl rfl rfl ?_
                refine dSkip rfl rfl rfl ?_
                refine dSkip rfl rfl rfl ?_
                refine dSkip rfl rfl rfl ?_
                refine dSkip rfl rfl rfl ?_
                refine dSkip rfl rfl rfl ?_
                refine dSkip rfl rfl rfl ?_
                refine dSkip rfl rfl rfl ?_
                refine dSkip rfl rfl rfl ?_
                refine dpk (e := false) rfl rfl rfl rfl rfl rfl ?_
                refine dpk (e := false) rfl rfl rfl rfl rfl rfl ?_
                refine dmB rfl rfl rfl rfl rfl ?_
                refine dfa (off := 1) (s := 1) (r := false) rfl rfl rfl (Nat.succ_ne_zero _) rfl rfl rfl ?_
                (apply dlc (v := .int _ _) rfl rfl; (first | ((simp (disch := omega) only [↓app0, ↓appC, ↓updS, ↓updN, ↓hpS, ↓hpN]) <;> first | rfl | assumption) | assumption | rfl); rfl; rfl; rfl; rfl; rfl; rfl)
                refine dfa (off := 1) (s := 1) (r := false) rfl rfl rfl (Nat.succ_ne_zero _) rfl rfl rfl ?_
                (apply dlc (v := .int _ _) rfl rfl; (first | ((simp (disch := omega) only [↓app0, ↓appC, ↓updS, ↓updN, ↓hpS, ↓hpN]) <;> first | rfl | assumption) | assumption | rfl); rfl; rfl; rfl; rfl; rfl; rfl)
                refine dsubF rfl rfl rfl ?_ ?_ rfl rfl rfl ?_
                · (first | omega | assumption | (focus (simp; omega)))
                · (first | omega | assumption | (focus (simp; omega)))
                refine dclP (p84 _ _ _) rfl rfl rfl rfl rfl rfl ?_ ?_ <;> intro h7_26
                · refine dnot (c := true) rfl rfl rfl rfl rfl ?_
                  refine dpk (e := false) rfl rfl rfl rfl rfl rfl ?_
                  refine dmB rfl rfl rfl rfl rfl ?_
                  refine dfa (off := 2) (s := 1) (r := false) rfl rfl rfl (Nat.succ_ne_zero _) rfl rfl rfl ?_
                  (apply dlc (v := .int _ _) rfl rfl; (first | ((simp (disch := omega) only [↓app0, ↓appC, ↓updS, ↓updN, ↓hpS, ↓hpN]) <;> first | rfl | assumption) | assumption | rfl); rfl; rfl; rfl; rfl; rfl; rfl)
                  refine dclP (p84 _ _ _) rfl rfl rfl rfl rfl rfl ?_ ?_ <;> intro h7_32
                  · refine dnot (c := true) rfl rfl rfl rfl rfl ?_
                    refine dpk (e := false) rfl rfl rfl rfl rfl rfl ?_
                    refine dmB rfl rfl rfl rfl rfl ?_
                    refine dfa (off := 3) (s := 1) (r := false) rfl rfl rfl (Nat.succ_ne_zero _) rfl rfl rfl ?_
                    (apply dlc (v := .int _ _) rfl rfl; (first | ((simp (disch := omega) only [↓app0, ↓appC, ↓updS, ↓updN, ↓hpS, ↓hpN]) <;> first | rfl | assumption) | assumption | rfl); rfl; rfl; rfl; rfl; rfl; rfl)
                    refine dclP (p84 _ _ _) rfl rfl rfl rfl rfl rfl ?_ ?_ <;> intro h7_38
                    · refine dnot (c := true) rfl rfl rfl rfl rfl ?_
                      refine dpk (e := false) rfl rfl rfl rfl rfl rfl ?_
                      refine dmB rfl rfl rfl rfl rfl ?_
                      refine dfa (off := 4) (s := 1) (r := false) rfl rfl rfl (Nat.succ_ne_zero _) rfl rfl rfl ?_
                      (apply dlc (v := .sl _ _ _) rfl rfl; (first | ((simp (disch := omega) only [↓app0, ↓appC, ↓updS, ↓updN, ↓hpS, ↓hpN]) <;> first | rfl | assumption) | assumption | rfl); rfl; rfl; rfl; rfl; rfl; rfl)
                      refine dll rfl rfl rfl rfl rfl rfl ?_
                      refine dgt rfl rfl rfl rfl rfl rfl ?_ ?_ <;> intro h7_45
                      · refine dpk (e := true) rfl rfl rfl rfl rfl rfl ?_
                        refine dNilR 47 [0, 0, 0, 1, 0, 0, 0, 0, 0, 1, 0, 0, 0, 0, 0, 1, 0, 0, 0, 0, 0, 0, 1, 0, 1, 0, 0, 0, 0, 0, 0, 0, 0, 0, 0, 0, 0, 0, 0, 0, 0, 0, 0, 0, 0, 1, 0] [] rfl rfl (by decide +kernel) trivial ?_
                        refine qSeq ?_
                        refine wT rfl ?_
                        refine wSeq ?_
                        refine wRegion ?_
                        refine raB rfl rfl rfl rfl rfl ?_
                        refine rNil ?_
                        refine qSeq ?_
                        refine wRet ?_
                        refine qSeqR ?_
                        refine qBlockR ?_
                        refine qSeqR ?_
                        refine qLoopR ?_
                        refine qBlockR ?_
                        refine qSeqR ?_
                        refine finF rfl fun hw => ?_
                        obtain ⟨w1, w2, w3, w4, w5, w6⟩ := hw
                        obtain ⟨⟨v1, v2, v3, v4, v5, v6, v7⟩, v8⟩ := w5 i0 (by omega)
                        first
                        | omega
                        | exact h7_2 ⟨by have := v1.1; omega, v1.2⟩
                        | (have v9 := v8 (by omega); unfold ltS at v9; rw [pred_nat, v9] at h7_17; cases h7_17)
                      · refine dpk (e := false) rfl rfl rfl rfl rfl rfl ?_
                        refine dNilR 47 [0, 0, 0, 1, 0, 0, 0, 0, 0, 1, 0, 0, 0, 0, 0, 1, 0, 0, 0, 0, 0, 0, 1, 0, 1, 0, 0, 0, 0, 0, 0, 0, 0, 0, 0, 0, 0, 0, 0, 0, 0, 0, 0, 0, 0, 1, 0] [] rfl rfl (by decide +kernel) trivial ?_
                        refine qSeq ?_
                        refine wF rfl ?_
                        refine wSkip ?_
                        refine qSeq ?_
                        refine wSeq ?_
                        refine wSeq ?_
                        refine wRegion ?_
                        refine rfa (off := 2) (s := 1) (r := false) rfl rfl rfl (Nat.succ_ne_zero _) rfl rfl rfl ?_
                        (apply rlc (v := .int _ _) rfl rfl; (first | ((simp (disch := omega) only [↓app0, ↓appC, ↓updS, ↓updN, ↓hpS, ↓hpN]) <;> first | rfl | assumption) | assumption | rfl); rfl; rfl; rfl; rfl; rfl; rfl)
                        refine rlt rfl rfl rfl rfl rfl rfl ?_ ?_ <;> intro h9_2
                        · refine rmB rfl rfl rfl rfl rfl ?_
                          refine rfa (off := 3) (s := 1) (r := false) rfl rfl rfl (Nat.succ_ne_zero _) rfl rfl rfl ?_
                          (apply rlc (v := .int _ _) rfl rfl; (first | ((simp (disch := omega) only [↓app0, ↓appC, ↓updS, ↓updN, ↓hpS, ↓hpN]) <;> first | rfl | assumption) | assumption | rfl); rfl; rfl; rfl; rfl; rfl; rfl)
                          refine rne rfl rfl rfl rfl rfl rfl ?_ ?_ <;> intro h9_6
                          · refine rmB rfl rfl rfl rfl rfl ?_
                            refine rSkip rfl rfl rfl ?_
                            refine rSkip rfl rfl rfl ?_
                            refine rSkip rfl rfl rfl ?_
                            refine rSkip rfl rfl rfl ?_
                            refine rpk (e := true) rfl rfl rfl rfl rfl rfl ?_
                            refine rpk (e := true) rfl rfl rfl rfl rfl rfl ?_
                            refine rNil ?_
                            refine qSeq ?_
                            refine wT rfl ?_
                            refine wSeq ?_
                            refine wRegion ?_
                            refine raB rfl rfl rfl rfl rfl ?_
                            refine rNil ?_
                            refine qSeq ?_
                            refine wRet ?_
                            refine qSeqR ?_
                            refine qBlockR ?_
                            refine qSeqR ?_
                            refine qLoopR ?_
                            refine qBlockR ?_
                            refine qSeqR ?_
                            refine finF rfl fun hw => ?_
                            obtain ⟨w1, w2, w3, w4, w5, w6⟩ := hw
                            obtain ⟨⟨v1, v2, v3, v4, v5, v6, v7⟩, v8⟩ := w5 i0 (by omega)
                            have v9 := v6 (by omega)
                            omega
                          · refine rmB rfl rfl rfl rfl rfl ?_
                            refine rfa (off := 4) (s := 1) (r := false) rfl rfl rfl (Nat.succ_ne_zero _) rfl rfl rfl ?_
                            (apply rlc (v := .sl _ _ _) rfl rfl; (first | ((simp (disch := omega) only [↓app0, ↓appC, ↓updS, ↓updN, ↓hpS, ↓hpN]) <;> first | rfl | assumption) | assumption | rfl); rfl; rfl; rfl; rfl; rfl; rfl)
                            refine rll rfl rfl rfl rfl rfl rfl ?_
                            refine rne rfl rfl rfl rfl rfl rfl ?_ ?_ <;> intro h9_11
                            · refine rpk (e := true) rfl rfl rfl rfl rfl rfl ?_
                              refine rpk (e := true) rfl rfl rfl rfl rfl rfl ?_
                              refine rNil ?_
                              refine qSeq ?_
                              refine wT rfl ?_
                              refine wSeq ?_
                              refine wRegion ?_
                              refine raB rfl rfl rfl rfl rfl ?_
                              refine rNil ?_
                              refine qSeq ?_
                              refine wRet ?_
                              refine qSeqR ?_
                              refine qBlockR ?_
                              refine qSeqR ?_
                              refine qLoopR ?_
                              refine qBlockR ?_
                              refine qSeqR ?_
                              refine finF rfl fun hw => ?_
                              obtain ⟨w1, w2, w3, w4, w5, w6⟩ := hw
                              obtain ⟨⟨v1, v2, v3, v4, v5, v6, v7⟩, v8⟩ := w5 i0 (by omega)
                              have v9 := v6 (by omega)
                              omega
                            · refine rpk (e := false) rfl rfl rfl rfl rfl rfl ?_
                              refine rpk (e := false) rfl rfl rfl rfl rfl rfl ?_
                              refine rNil ?_
                              refine qSeq ?_
                              refine wF rfl ?_
                              refine wSkip ?_
                              refine qSeq ?_
                              refine wSeq ?_
                              refine wRegion ?_
                              refine raI rfl rfl rfl rfl rfl ?_
                              refine rNil ?_
                              refine qSeq ?_
                              refine wBlock ?_
                              refine wLoop ?_
                              refine loopGo (fun (a : Nat × Nat) => [.unk, .ptr 0 0 0, .unk, .int .i64 i0, .ptr m0 0 0, .int .i64 a.1]) (fun (a : Nat × Nat) => hp [(0, ⟨[[.int .i64 t.tm, .int .i64 t.nx, .sl false n1 (t.lk.map (Lk.T b)), .sl false n2 (t.sn.map Sn.T)]], 4, 35⟩), (m0, ⟨[[.str (t.lk.getD i0 Lk0).nm, .int .i64 (t.lk.getD i0 Lk0).tk, .int .i64 (t.lk.getD i0 Lk0).hd, .int .i64 (t.lk.getD i0 Lk0).ex, .sl false b ((t.lk.getD i0 Lk0).ws.map wtT)]], 5, 29⟩)]) (fun (a : Nat × Nat) => a.2) (fun (a : Nat × Nat) => a.1 ≤ (t.lk.getD i0 Lk0).ws.length ∧ (∀ j, j < a.1 → wOK (t.lk.getD i0 Lk0) j) ∧ m0 < a.2) (fun (a : Nat × Nat) => (t.lk.getD i0 Lk0).ws.length - a.1) (0, m0 + 1) ?_ ?_ ?_ ?_ ?_
                              · exact ⟨Nat.zero_le _, all0, Nat.lt_succ_self _⟩
                              · (repeat first | exact LE.nil _ | refine LE.unk _ _ ?_ | refine LE.eq _ _ _ rfl ?_)
                              · (repeat first | exact lessH0 | (refine lessHc ?_ ?_; (first | (first | ((simp (disch := omega) only [↓app0, ↓appC, ↓updS, ↓updN, ↓hpS, ↓hpN]) <;> first | rfl | assumption) | assumption | rfl) | fail)))
                              · exact Nat.le_refl _
                              intro ⟨k, m1⟩ hI ih
                              dsimp only at hI ⊢
                              have hK1 := hI
                              have ih1 := ih
                              refine lStep ?_
                              refine wSeq ?_
                              refine wSeq ?_
                              refine wRegion ?_
                              refine rmI rfl rfl rfl rfl rfl ?_
                              refine rfa (off := 4) (s := 1) (r := false) rfl rfl rfl (Nat.succ_ne_zero _) rfl rfl rfl ?_
                              (apply rlc (v := .sl _ _ _) rfl rfl; (first | ((simp (disch := omega) only [↓app0, ↓appC, ↓updS, ↓updN, ↓hpS, ↓hpN]) <;> first | rfl | assumption) | assumption | rfl); rfl; rfl; rfl; rfl; rfl; rfl)
                              refine rll rfl rfl rfl rfl rfl rfl ?_
                              refine rlt rfl rfl rfl rfl rfl rfl ?_ ?_ <;> intro h12_4
                              · refine rNil ?_
                                refine qSeq ?_
                                refine wT rfl ?_
                                refine wSkip ?_
                                refine qSeq ?_
                                refine wSeq ?_
                                refine wBlock ?_
                                refine wSeq ?_
                                exact absurd h12_4 (by omega)
                              · refine rNil ?_
                                refine qSeq ?_
                                refine wF rfl ?_
                                refine wExit ?_
                                refine qSeqX ?_
                                refine qLoopX ?_
                                refine qBlockX ?_
                                refine qBlock ?_
                                refine qSeq ?_
                                refine wRegion ?_
                                refine rmI rfl rfl rfl rfl rfl ?_
                                refine raddF rfl rfl rfl ?_ ?_ rfl rfl rfl ?_
                                · (first | omega | assumption | (focus (simp; omega)))
                                · (first | omega | assumption | (focus (simp; omega)))
                                refine raI rfl rfl rfl rfl rfl ?_
                                refine rNil ?_
                                refine qLoop ?_
                                refine wlH (ih0 (i0 + 1, m1) ⟨by dsimp only; omega, allS hK0.2.1 ⟨⟨⟨by have := h7_2.1; omega, h7_2.2⟩, by omega, by omega, by omega, by omega, fun he => by omega, fun j hj => hI.2.1 j (by omega)⟩, fun h0 => ?_⟩, by dsimp only; omega⟩ (by dsimp only; omega)) (by (repeat first | exact LE.nil _ | refine LE.unk _ _ ?_ | refine LE.eq _ _ _ rfl ?_)) (by (repeat first | exact lessH0 | (refine lessHc ?_ ?_; (first | (first | ((simp (disch := omega) only [↓app0, ↓appC, ↓updS, ↓updN, ↓hpS, ↓hpN]) <;> first | rfl | assumption) | assumption | rfl) | fail)))) (Nat.le_refl _)
                                first | omega | (rw [pred_nat] at h7_17; unfold ltS; simpa using h7_17)
                        · refine rmB rfl rfl rfl rfl rfl ?_
                          refine rSkip rfl rfl rfl ?_
                          refine rSkip rfl rfl rfl ?_
                          refine rSkip rfl rfl rfl ?_
                          refine rSkip rfl rfl rfl ?_
                          refine rSkip rfl rfl rfl ?_
                          refine rSkip rfl rfl rfl ?_
                          refine rSkip rfl rfl rfl ?_
                          refine rSkip rfl rfl rfl ?_
                          refine rSkip rfl rfl rfl ?_
                          refine rpk (e := false) rfl rfl rfl rfl rfl rfl ?_
                          refine rNil ?_
                          refine qSeq ?_
                          refine wF rfl ?_
                          refine wSkip ?_
                          refine qSeq ?_
                          refine wSeq ?_
                          refine wRegion ?_
                          refine raI rfl rfl rfl rfl rfl ?_
                          refine rNil ?_
                          refine qSeq ?_
                          refine wBlock ?_
                          refine wLoop ?_
                          refine loopGo (fun (a : Nat × Nat) => [.unk, .ptr 0 0 0, .unk, .int .i64 i0, .ptr m0 0 0, .int .i64 a.1]) (fun (a : Nat × Nat) => hp [(0, ⟨[[.int .i64 t.tm, .int .i64 t.nx, .sl false n1 (t.lk.map (Lk.T b)), .sl false n2 (t.sn.map Sn.T)]], 4, 35⟩), (m0, ⟨[[.str (t.lk.getD i0 Lk0).nm, .int .i64 (t.lk.getD i0 Lk0).tk, .int .i64 (t.lk.getD i0 Lk0).hd, .int .i64 (t.lk.getD i0 Lk0).ex, .sl false b ((t.lk.getD i0 Lk0).ws.map wtT)]], 5, 29⟩)]) (fun (a : Nat × Nat) => a.2) (fun (a : Nat × Nat) => a.1 ≤ (t.lk.getD i0 Lk0).ws.length ∧ (∀ j, j < a.1 → wOK (t.lk.getD i0 Lk0) j) ∧ m0 < a.2) (fun (a : Nat × Nat) => (t.lk.getD i0 Lk0).ws.length - a.1) (0, m0 + 1) ?_ ?_ ?_ ?_ ?_
                          · exact ⟨Nat.zero_le _, all0, Nat.lt_succ_self _⟩
                          · (repeat first | exact LE.nil _ | refine LE.unk _ _ ?_ | refine LE.eq _ _ _ rfl ?_)
                          · (repeat first | exact lessH0 | (refine lessHc ?_ ?_; (first | (first | ((simp (disch := omega) only [↓app0, ↓appC, ↓updS, ↓updN, ↓hpS, ↓hpN]) <;> first | rfl | assumption) | assumption | rfl) | fail)))
                          · exact Nat.le_refl _
                          intro ⟨k, m1⟩ hI ih
                          dsimp only at hI ⊢
                          have hK1 := hI
                          have ih1 := ih
                          refine lStep ?_
                          refine wSeq ?_
                          refine wSeq ?_
                          refine wRegion ?_
                          refine rmI rfl rfl rfl rfl rfl ?_
                          refine rfa (off := 4) (s := 1) (r := false) rfl rfl rfl (Nat.succ_ne_zero _) rfl rfl rfl ?_
                          (apply rlc (v := .sl _ _ _) rfl rfl; (first | ((simp (disch := omega) only [↓app0, ↓appC, ↓updS, ↓updN, ↓hpS, ↓hpN]) <;> first | rfl | assumption) | assumption | rfl); rfl; rfl; rfl; rfl; rfl; rfl)
                          refine rll rfl rfl rfl rfl rfl rfl ?_
                          refine rlt rfl rfl rfl rfl rfl rfl ?_ ?_ <;> intro h12_4
                          · refine rNil ?_
                            refine qSeq ?_
                            refine wT rfl ?_
                            refine wSkip ?_
                            refine qSeq ?_
                            refine wSeq ?_
                            refine wBlock ?_
                            refine wSeq ?_
                            refine wRegion ?_
                            refine rfa (off := 4) (s := 1) (r := false) rfl rfl rfl (Nat.succ_ne_zero _) rfl rfl rfl ?_
                            (apply rlc (v := .sl _ _ _) rfl rfl; (first | ((simp (disch := omega) only [↓app0, ↓appC, ↓updS, ↓updN, ↓hpS, ↓hpN]) <;> first | rfl | assumption) | assumption | rfl); rfl; rfl; rfl; rfl; rfl; rfl)
                            refine rmI rfl rfl rfl rfl rfl ?_
                            (apply rixl rfl rfl rfl rfl; (first | omega | assumption | (focus (simp; omega))); (first | rfl | assumption | (first | exact getMap (Lk.T b) Lk0 (k := i0) (by omega) | exact getMap Sn.T Sn0 (k := i) (by omega) | exact getMap wtT (0, 0) (k := k) (by omega) | exact getMap wtT (0, 0) (k := q) (by omega) | exact getMap (Lk.T b) Lk0 (by omega) | exact getMap Sn.T Sn0 (by omega) | exact getMap wtT (0, 0) (by omega))); rfl; rfl; rfl; rfl)
                            refine rlir (vs := [.int _ _, .int _ _]) rfl rfl rfl (Nat.le_of_ble_eq_true rfl) rfl rfl rfl rfl ?_
                            refine ral rfl rfl rfl rfl rfl rfl ?_
                            (apply rst (u := .agg [.int _ _, .int _ _]) rfl rfl rfl; (first | ((simp (disch := omega) only [↓app0, ↓appC, ↓updS, ↓updN, ↓hpS, ↓hpN]) <;> first | rfl | assumption) | assumption | rfl); rfl; rfl; rfl; rfl; rfl; (exact Nat.le_of_ble_eq_true rfl); rfl; rfl; rfl)
                            refine rNil ?_
                            refine qSeq ?_
                            refine wSeq ?_
                            refine wSeq ?_
                            refine wRegion ?_
                            refine rfa (off := 0) (s := 1) (r := false) rfl rfl rfl (Nat.succ_ne_zero _) rfl rfl rfl ?_
                            (apply rlc (v := .int _ _) rfl rfl; (first | ((simp (disch := omega) only [↓app0, ↓appC, ↓updS, ↓updN, ↓hpS, ↓hpN]) <;> first | rfl | assumption) | assumption | rfl); rfl; rfl; rfl; rfl; rfl; rfl)
                            refine rclP (p84 _ _ _) rfl rfl rfl rfl rfl rfl ?_ ?_ <;> intro h15_2
                            · refine rnot (c := true) rfl rfl rfl rfl rfl ?_
                              refine rmB rfl rfl rfl rfl rfl ?_
                              refine rfa (off := 1) (s := 1) (r := false) rfl rfl rfl (Nat.succ_ne_zero _) rfl rfl rfl ?_
                              (apply rlc (v := .int _ _) rfl rfl; (first | ((simp (disch := omega) only [↓app0, ↓appC, ↓updS, ↓updN, ↓hpS, ↓hpN]) <;> first | rfl | assumption) | assumption | rfl); rfl; rfl; rfl; rfl; rfl; rfl)
                              refine rclP (p84 _ _ _) rfl rfl rfl rfl rfl rfl ?_ ?_ <;> intro h15_7
                              · refine rnot (c := true) rfl rfl rfl rfl rfl ?_
                                refine rpk (e := false) rfl rfl rfl rfl rfl rfl ?_
                                refine rmB rfl rfl rfl rfl rfl ?_
                                refine rfa (off := 0) (s := 1) (r := false) rfl rfl rfl (Nat.succ_ne_zero _) rfl rfl rfl ?_
                                (apply rlc (v := .int _ _) rfl rfl; (first | ((simp (disch := omega) only [↓app0, ↓appC, ↓updS, ↓updN, ↓hpS, ↓hpN]) <;> first | rfl | assumption) | assumption | rfl); rfl; rfl; rfl; rfl; rfl; rfl)
                                refine rfa (off := 2) (s := 1) (r := false) rfl rfl rfl (Nat.succ_ne_zero _) rfl rfl rfl ?_
                                (apply rlc (v := .int _ _) rfl rfl; (first | ((simp (disch := omega) only [↓app0, ↓appC, ↓updS, ↓updN, ↓hpS, ↓hpN]) <;> first | rfl | assumption) | assumption | rfl); rfl; rfl; rfl; rfl; rfl; rfl)
                                refine req rfl rfl rfl rfl rfl rfl ?_ ?_ <;> intro h15_15
                                · refine rpk (e := true) rfl rfl rfl rfl rfl rfl ?_
                                  refine rNil ?_
                                  refine qSeq ?_
                                  refine wT rfl ?_
                                  refine wSeq ?_
                                  refine wRegion ?_
                                  refine raB rfl rfl rfl rfl rfl ?_
                                  refine rNil ?_
                                  refine qSeq ?_
                                  refine wRet ?_
                                  refine qSeqR ?_
                                  refine qBlockR ?_
                                  refine qSeqR ?_
                                  refine qLoopR ?_
                                  refine qBlockR ?_
                                  refine qBlockR ?_
                                  refine qSeqR ?_
                                  refine qLoopR ?_
                                  refine qBlockR ?_
                                  refine qSeqR ?_
                                  refine finF rfl fun hw => ?_
                                  obtain ⟨w1, w2, w3, w4, w5, w6⟩ := hw
                                  obtain ⟨⟨v1, v2, v3, v4, v5, v6, v7⟩, v8⟩ := w5 i0 (by omega)
                                  obtain ⟨u1, u2, u3, u4⟩ := v7 k (by omega)
                                  first | omega | contradiction
                                · refine rpk (e := false) rfl rfl rfl rfl rfl rfl ?_
                                  refine rNil ?_
                                  refine qSeq ?_
                                  refine wF rfl ?_
                                  refine wSkip ?_
                                  refine qSeq ?_
                                  refine wSeq ?_
                                  refine wRegion ?_
                                  refine raI rfl rfl rfl rfl rfl ?_
                                  refine rNil ?_
                                  refine qSeq ?_
                                  refine wBlock ?_
                                  refine wLoop ?_
                                  refine loopGo (fun (q : Nat) => [.unk, .ptr 0 0 0, .unk, .int .i64 i0, .ptr m0 0 0, .int .i64 k, .ptr m1 0 0, .int .i64 q]) (fun (q : Nat) => hp [(0, ⟨[[.int .i64 t.tm, .int .i64 t.nx, .sl false n1 (t.lk.map (Lk.T b)), .sl false n2 (t.sn.map Sn.T)]], 4, 35⟩), (m0, ⟨[[.str (t.lk.getD i0 Lk0).nm, .int .i64 (t.lk.getD i0 Lk0).tk, .int .i64 (t.lk.getD i0 Lk0).hd, .int .i64 (t.lk.getD i0 Lk0).ex, .sl false b ((t.lk.getD i0 Lk0).ws.map wtT)]], 5, 29⟩), (m1, ⟨[[.int .i64 ((t.lk.getD i0 Lk0).ws.getD k (0, 0)).1, .int .i64 ((t.lk.getD i0 Lk0).ws.getD k (0, 0)).2]], 2, 123⟩)]) (fun (q : Nat) => m1 + 1) (fun (q : Nat) => q ≤ k ∧ ∀ j, j < q → ¬ ((t.lk.getD i0 Lk0).ws.getD j (0, 0)).1 = ((t.lk.getD i0 Lk0).ws.getD k (0, 0)).1) (fun (q : Nat) => k - q) 0 ?_ ?_ ?_ ?_ ?_
                                  · exact ⟨Nat.zero_le _, all0⟩
                                  · (repeat first | exact LE.nil _ | refine LE.unk _ _ ?_ | refine LE.eq _ _ _ rfl ?_)
                                  · (repeat first | exact lessH0 | (refine lessHc ?_ ?_; (first | (first | ((simp (disch := omega) only [↓app0, ↓appC, ↓updS, ↓updN, ↓hpS, ↓hpN]) <;> first | rfl | assumption) | assumption | rfl) | fail)))
                                  · exact Nat.le_refl _
                                  intro q hI ih
                                  refine lStep ?_
                                  refine wSeq ?_
                                  refine wSeq ?_
                                  refine wRegion ?_
                                  refine rmI rfl rfl rfl rfl rfl ?_
                                  refine rmI rfl rfl rfl rfl rfl ?_
                                  refine rlt rfl rfl rfl rfl rfl rfl ?_ ?_ <;> intro h18_2
                                  · refine rNil ?_
                                    refine qSeq ?_
                                    refine wT rfl ?_
                                    refine wSkip ?_
                                    refine qSeq ?_
                                    refine wSeq ?_
                                    refine wBlock ?_
                                    refine wSeq ?_
                                    refine wDraw [0, 1, 0, 7, 15, 31, 0, 64, 255] rfl (by decide +kernel) ?_
                                    refine dfa (off := 4) (s := 1) (r := false) rfl rfl rfl (Nat.succ_ne_zero _) rfl rfl rfl ?_
                                    (apply dlc (v := .sl _ _ _) rfl rfl; (first | ((simp (disch := omega) only [↓app0, ↓appC, ↓updS, ↓updN, ↓hpS, ↓hpN]) <;> first | rfl | assumption) | assumption | rfl); rfl; rfl; rfl; rfl; rfl; rfl)
                                    refine dmI rfl rfl rfl rfl rfl ?_
                                    (apply dixl rfl rfl rfl rfl; (first | omega | assumption | (focus (simp; omega))); (first | rfl | assumption | (first | exact getMap (Lk.T b) Lk0 (k := i0) (by omega) | exact getMap Sn.T Sn0 (k := i) (by omega) | exact getMap wtT (0, 0) (k := k) (by omega) | exact getMap wtT (0, 0) (k := q) (by omega) | exact getMap (Lk.T b) Lk0 (by omega) | exact getMap Sn.T Sn0 (by omega) | exact getMap wtT (0, 0) (by omega))); rfl; rfl; rfl; rfl)
                                    refine dfai (off := 0) (s := 1) (r := false) rfl rfl rfl (Nat.succ_ne_zero _) rfl rfl rfl rfl ?_
                                    refine dlic (v := .int _ _) rfl rfl rfl rfl rfl rfl rfl rfl ?_
                                    refine dfa (off := 0) (s := 1) (r := false) rfl rfl rfl (Nat.succ_ne_zero _) rfl rfl rfl ?_
                                    (apply dlc (v := .int _ _) rfl rfl; (first | ((simp (disch := omega) only [↓app0, ↓appC, ↓updS, ↓updN, ↓hpS, ↓hpN]) <;> first | rfl | assumption) | assumption | rfl); rfl; rfl; rfl; rfl; rfl; rfl)
                                    refine deq rfl rfl rfl rfl rfl rfl ?_ ?_ <;> intro h20_8
                                    · refine dNilR 9 [0, 1, 0, 0, 0, 0, 0, 1, 0] [] rfl rfl (by decide +kernel) trivial ?_
                                      refine qSeq ?_
                                      refine wT rfl ?_
                                      refine wSeq ?_
                                      refine wRegion ?_
                                      refine raB rfl rfl rfl rfl rfl ?_
                                      refine rNil ?_
                                      refine qSeq ?_
                                      refine wRet ?_
                                      refine qBlockR ?_
                                      refine qSeqR ?_
                                      refine qLoopR ?_
                                      refine qBlockR ?_
                                      refine qBlockR ?_
                                      refine qSeqR ?_
                                      refine qLoopR ?_
                                      refine qBlockR ?_
                                      refine qBlockR ?_
                                      refine qSeqR ?_
                                      refine qLoopR ?_
                                      refine qBlockR ?_
                                      refine qSeqR ?_
                                      refine finF rfl fun hw => ?_
                                      obtain ⟨w1, w2, w3, w4, w5, w6⟩ := hw
                                      obtain ⟨⟨v1, v2, v3, v4, v5, v6, v7⟩, v8⟩ := w5 i0 (by omega)
                                      obtain ⟨u1, u2, u3, u4⟩ := v7 k (by omega)
                                      exact u4 q (by omega) h20_8
                                    · refine dNilR 9 [0, 1, 0, 0, 0, 0, 0, 1, 0] [] rfl rfl (by decide +kernel) trivial ?_
                                      refine qSeq ?_
                                      refine wF rfl ?_
                                      refine wSkip ?_
                                      refine qBlock ?_
                                      refine qSeq ?_
                                      refine wRegion ?_
                                      refine rmI rfl rfl rfl rfl rfl ?_
                                      refine raddF rfl rfl rfl ?_ ?_ rfl rfl rfl ?_
                                      · (first | omega | assumption | (focus (simp; omega)))
                                      · (first | omega | assumption | (focus (simp; omega)))
                                      refine raI rfl rfl rfl rfl rfl ?_
                                      refine rNil ?_
                                      refine qLoop ?_
                                      exact wlH (ih (q + 1) ⟨by omega, allS hI.2 h20_8⟩ (by omega)) (by (repeat first | exact LE.nil _ | refine LE.unk _ _ ?_ | refine LE.eq _ _ _ rfl ?_)) (by (repeat first | exact lessH0 | (refine lessHc ?_ ?_; (first | (first | ((simp (disch := omega) only [↓app0, ↓appC, ↓updS, ↓updN, ↓hpS, ↓hpN]) <;> first | rfl | assumption) | assumption | rfl) | fail)))) (Nat.le_refl _)
                                  · refine rNil ?_
                                    refine qSeq ?_
                                    refine wF rfl ?_
                                    refine wExit ?_
                                    refine qSeqX ?_
                                    refine qLoopX ?_
                                    refine qBlockX ?_
                                    refine qBlock ?_
                                    refine qSeq ?_
                                    refine wRegion ?_
                                    refine rmI rfl rfl rfl rfl rfl ?_
                                    refine raddF rfl rfl rfl ?_ ?_ rfl rfl rfl ?_
                                    · (first | omega | assumption | (focus (simp; omega)))
                                    · (first | omega | assumption | (focus (simp; omega)))
                                    refine raI rfl rfl rfl rfl rfl ?_
                                    refine rNil ?_
                                    refine qLoop ?_
                                    exact wlH (ih1 (k + 1, m1 + 1) ⟨by dsimp only; omega, allS hK1.2.1 ⟨h15_2, by assumption, h15_7, fun j hj => hI.2 j (by omega)⟩, by dsimp only; omega⟩ (by dsimp only; omega)) (by (repeat first | exact LE.nil _ | refine LE.unk _ _ ?_ | refine LE.eq _ _ _ rfl ?_)) (by (repeat first | exact lessH0 | (refine lessHc ?_ ?_; (first | (first | ((simp (disch := omega) only [↓app0, ↓appC, ↓updS, ↓updN, ↓hpS, ↓hpN]) <;> first | rfl | assumption) | assumption | rfl) | fail)))) (Nat.le_refl _)
                              · refine rnot (c := false) rfl rfl rfl rfl rfl ?_
                                refine rpk (e := true) rfl rfl rfl rfl rfl rfl ?_
                                refine rmB rfl rfl rfl rfl rfl ?_
                                refine rSkip rfl rfl rfl ?_
                                refine rSkip rfl rfl rfl ?_
                                refine rSkip rfl rfl rfl ?_
                                refine rSkip rfl rfl rfl ?_
                                refine rSkip rfl rfl rfl ?_
                                refine rpk (e := true) rfl rfl rfl rfl rfl rfl ?_
                                refine rNil ?_
                                refine qSeq ?_
                                refine wT rfl ?_
                                refine wSeq ?_
                                refine wRegion ?_
                                refine raB rfl rfl rfl rfl rfl ?_
                                refine rNil ?_
                                refine qSeq ?_
                                refine wRet ?_
                                refine qSeqR ?_
                                refine qBlockR ?_
                                refine qSeqR ?_
                                refine qLoopR ?_
                                refine qBlockR ?_
                                refine qBlockR ?_
                                refine qSeqR ?_
                                refine qLoopR ?_
                                refine qBlockR ?_
                                refine qSeqR ?_
                                refine finF rfl fun hw => ?_
                                obtain ⟨w1, w2, w3, w4, w5, w6⟩ := hw
                                obtain ⟨⟨v1, v2, v3, v4, v5, v6, v7⟩, v8⟩ := w5 i0 (by omega)
                                obtain ⟨u1, u2, u3, u4⟩ := v7 k (by omega)
                                first | omega | contradiction
                            · refine rnot (c := false) rfl rfl rfl rfl rfl ?_
                              refine rmB rfl rfl rfl rfl rfl ?_
                              refine rSkip rfl rfl rfl ?_
                              refine rSkip rfl rfl rfl ?_
                              refine rSkip rfl rfl rfl ?_
                              refine rSkip rfl rfl rfl ?_
                              refine rpk (e := true) rfl rfl rfl rfl rfl rfl ?_
                              refine rmB rfl rfl rfl rfl rfl ?_
                              refine rSkip rfl rfl rfl ?_
                              refine rSkip rfl rfl rfl ?_
                              refine rSkip rfl rfl rfl ?_
                              refine rSkip rfl rfl rfl ?_
                              refine rSkip rfl rfl rfl ?_
                              refine rpk (e := true) rfl rfl rfl rfl rfl rfl ?_
                              refine rNil ?_
                              refine qSeq ?_
                              refine wT rfl ?_
                              refine wSeq ?_
                              refine wRegion ?_
                              refine raB rfl rfl rfl rfl rfl ?_
                              refine rNil ?_
                              refine qSeq ?_
                              refine wRet ?_
                              refine qSeqR ?_
                              refine qBlockR ?_
                              refine qSeqR ?_
                              refine qLoopR ?_
                              refine qBlockR ?_
                              refine qBlockR ?_
                              refine qSeqR ?_
                              refine qLoopR ?_
                              refine qBlockR ?_
                              refine qSeqR ?_
                              refine finF rfl fun hw => ?_
                              obtain ⟨w1, w2, w3, w4, w5, w6⟩ := hw
                              obtain ⟨⟨v1, v2, v3, v4, v5, v6, v7⟩, v8⟩ := w5 i0 (by omega)
                              obtain ⟨u1, u2, u3, u4⟩ := v7 k (by omega)
                              first | omega | contradiction
                          · refine rNil ?_
                            refine qSeq ?_
                            refine wF rfl ?_
                            refine wExit ?_
                            refine qSeqX ?_
                            refine qLoopX ?_
                            refine qBlockX ?_
                            refine qBlock ?_
                            refine qSeq ?_
                            refine wRegion ?_
                            refine rmI rfl rfl rfl rfl rfl ?_
                            refine raddF rfl rfl rfl ?_ ?_ rfl rfl rfl ?_
                            · (first | omega | assumption | (focus (simp; omega)))
                            · (first | omega | assumption | (focus (simp; omega)))
                            refine raI rfl rfl rfl rfl rfl ?_
                            refine rNil ?_
                            refine qLoop ?_
                            refine wlH (ih0 (i0 + 1, m1) ⟨by dsimp only; omega, allS hK0.2.1 ⟨⟨⟨by have := h7_2.1; omega, h7_2.2⟩, by omega, by omega, by omega, by omega, fun he => by omega, fun j hj => hI.2.1 j (by omega)⟩, fun h0 => ?_⟩, by dsimp only; omega⟩ (by dsimp only; omega)) (by (repeat first | exact LE.nil _ | refine LE.unk _ _ ?_ | refine LE.eq _ _ _ rfl ?_)) (by (repeat first | exact lessH0 | (refine lessHc ?_ ?_; (first | (first | ((simp (disch := omega) only [↓app0, ↓appC, ↓updS, ↓updN, ↓hpS, ↓hpN]) <;> first | rfl | assumption) | assumption | rfl) | fail)))) (Nat.le_refl _)
                            first | omega | (rw [pred_nat] at h7_17; unfold ltS; simpa using h7_17)
                    · refine dnot (c := false) rfl rfl rfl rfl rfl ?_
                      refine dpk (e := true) rfl rfl rfl rfl rfl rfl ?_
                      refine dmB rfl rfl rfl rfl rfl ?_
                      refine dSkip rfl rfl rfl ?_
                      refine dSkip rfl rfl rfl ?_
                      refine dSkip rfl rfl rfl ?_
                      refine dSkip rfl rfl rfl ?_
                      refine dpk (e := true) rfl rfl rfl rfl rfl rfl ?_
                      refine dNilR 47 [0, 0, 0, 0, 0, 0, 0, 0, 0, 1, 0, 0, 0, 0, 0, 1, 0, 0, 0, 0, 0, 0, 1, 0, 1, 0, 0, 0, 0, 0, 0, 0, 0, 0, 0, 0, 0, 0, 0, 0, 0, 0, 0, 0, 0, 1, 0] [] rfl rfl (by decide +kernel) trivial ?_
                      refine qSeq ?_
                      refine wT rfl ?_
                      refine wSeq ?_
                      refine wRegion ?_
                      refine raB rfl rfl rfl rfl rfl ?_
                      refine rNil ?_
                      refine qSeq ?_
                      refine wRet ?_
                      refine qSeqR ?_
                      refine qBlockR ?_
                      refine qSeqR ?_
                      refine qLoopR ?_
                      refine qBlockR ?_
                      refine qSeqR ?_
                      refine finF rfl fun hw => ?_
                      obtain ⟨w1, w2, w3, w4, w5, w6⟩ := hw
                      obtain ⟨⟨v1, v2, v3, v4, v5, v6, v7⟩, v8⟩ := w5 i0 (by omega)
                      first
                      | omega
                      | exact h7_2 ⟨by have := v1.1; omega, v1.2⟩
                      | (have v9 := v8 (by omega); unfold ltS at v9; rw [pred_nat, v9] at h7_17; cases h7_17)
                  · refine dnot (c := false) rfl rfl rfl rfl rfl ?_
                    refine dpk (e := true) rfl rfl rfl rfl rfl rfl ?_
                    refine dmB rfl rfl rfl rfl rfl ?_
                    refine dSkip rfl rfl rfl ?_
                    refine dSkip rfl rfl rfl ?_
                    refine dSkip rfl rfl rfl ?_
                    refine dSkip rfl rfl rfl ?_
                    refine dpk (e := true) rfl rfl rfl rfl rfl rfl ?_
                    refine dmB rfl rfl rfl rfl rfl ?_
                    refine dSkip rfl rfl rfl ?_
                    refine dSkip rfl rfl rfl ?_
                    refine dSkip rfl rfl rfl ?_
                    refine dSkip rfl rfl rfl ?_
                    refine dpk (e := true) rfl rfl rfl rfl rfl rfl ?_
                    refine dNilR 47 [0, 0, 0, 0, 0, 0, 0, 0, 0, 0, 0, 0, 0, 0, 0, 1, 0, 0, 0, 0, 0, 0, 1, 0, 1, 0, 0, 0, 0, 0, 0, 0, 0, 0, 0, 0, 0, 0, 0, 0, 0, 0, 0, 0, 0, 1, 0] [] rfl rfl (by decide +kernel) trivial ?_
                    refine qSeq ?_
                    refine wT rfl ?_
                    refine wSeq ?_
                    refine wRegion ?_
                    refine raB rfl rfl rfl rfl rfl ?_
                    refine rNil ?_
                    refine qSeq ?_
                    refine wRet ?_
                    refine qSeqR ?_
                    refine qBlockR ?_
                    refine qSeqR ?_
                    refine qLoopR ?_
                    refine qBlockR ?_
                    refine qSeqR ?_
                    refine finF rfl fun hw => ?_
                    obtain ⟨w1, w2, w3, w4, w5, w6⟩ := hw
                    obtain ⟨⟨v1, v2, v3, v4, v5, v6, v7⟩, v8⟩ := w5 i0 (by omega)
                    first
                    | omega
                    | exact h7_2 ⟨by have := v1.1; omega, v1.2⟩
                    | (have v9 := v8 (by omega); unfold ltS at v9; rw [pred_nat, v9] at h7_17; cases h7_17)
                · refine dnot (c := false) rfl rfl rfl rfl rfl ?_
                  refine dpk (e := true) rfl rfl rfl rfl rfl rfl ?_
                  refine dmB rfl rfl rfl rfl rfl ?_
                  refine dSkip rfl rfl rfl ?_
                  refine dSkip rfl rfl rfl ?_
                  refine dSkip rfl rfl rfl ?_
                  refine dSkip rfl rfl rfl ?_
                  refine dpk (e := true) rfl rfl rfl rfl rfl rfl ?_
                  refine dmB rfl rfl rfl rfl rfl ?_
                  refine dSkip rfl rfl rfl ?_
                  refine dSkip rfl rfl rfl ?_
                  refine dSkip rfl rfl rfl ?_
                  refine dSkip rfl rfl rfl ?_
                  refine dpk (e := true) rfl rfl rfl rfl rfl rfl ?_
                  refine dmB rfl rfl rfl rfl rfl ?_
                  refine dSkip rfl rfl rfl ?_
                  refine dSkip rfl rfl rfl ?_
                  refine dSkip rfl rfl rfl ?_
                  refine dSkip rfl rfl rfl ?_
                  refine dpk (e := true) rfl rfl rfl rfl rfl rfl ?_
                  refine dNilR 47 [0, 0, 0, 0, 0, 0, 0, 0, 0, 0, 0, 0, 0, 0, 0, 0, 0, 0, 0, 0, 0, 0, 1, 0, 1, 0, 0, 0, 0, 0, 0, 0, 0, 0, 0, 0, 0, 0, 0, 0, 0, 0, 0, 0, 0, 1, 0] [] rfl rfl (by decide +kernel) trivial ?_
                  refine qSeq ?_
                  refine wT rfl ?_
                  refine wSeq ?_
                  refine wRegion ?_
                  refine raB rfl rfl rfl rfl rfl ?_
                  refine rNil ?_
                  refine qSeq ?_
                  refine wRet ?_
                  refine qSeqR ?_
                  refine qBlockR ?_
                  refine qSeqR ?_
                  refine qLoopR ?_
                  refine qBlockR ?_
                  refine qSeqR ?_
                  refine finF rfl fun hw => ?_
                  obtain ⟨w1, w2, w3, w4, w5, w6⟩ := hw
                  obtain ⟨⟨v1, v2, v3, v4, v5, v6, v7⟩, v8⟩ := w5 i0 (by omega)
                  first
                  | omega
                  | exact h7_2 ⟨by have := v1.1; omega, v1.2⟩
                  | (have v9 := v8 (by omega); unfold ltS at v9; rw [pred_nat, v9] at h7_17; cases h7_17)
            · refine dnot (c := false) rfl rfl rfl rfl rfl ?_
              refine dmB rfl rfl rfl rfl rfl ?_
              refine dSkip rfl rfl rfl ?_
              refine dSkip rfl rfl rfl ?_
              refine dSkip rfl rfl rfl ?_
              refine dSkip rfl rfl rfl ?_
              refine dSkip rfl rfl rfl ?_
              refine dSkip rfl rfl rfl ?_
              refine dSkip rfl rfl rfl ?_
              refine dSkip rfl rfl rfl ?_
              refine dSkip rfl rfl rfl ?_
              refine dSkip rfl rfl rfl ?_
              refine dSkip rfl rfl rfl ?_
              refine dSkip rfl rfl rfl ?_
              refine dSkip rfl rfl rfl ?_
              refine dSkip rfl rfl rfl ?_
              refine dpk (e := true) rfl rfl rfl rfl rfl rfl ?_
              refine dmB rfl rfl rfl rfl rfl ?_
              refine dSkip rfl rfl rfl ?_
              refine dSkip rfl rfl rfl ?_
              refine dSkip rfl rfl rfl ?_
              refine dSkip rfl rfl rfl ?_
              refine dSkip rfl rfl rfl ?_
              refine dSkip rfl rfl rfl ?_
              refine dSkip rfl rfl rfl ?_
              refine dpk (e := true) rfl rfl rfl rfl rfl rfl ?_
              refine dmB rfl rfl rfl rfl rfl ?_
              refine dSkip rfl rfl rfl ?_
              refine dSkip rfl rfl rfl ?_
              refine dSkip rfl rfl rfl ?_
              refine dSkip rfl rfl rfl ?_
              refine dpk (e := true) rfl rfl rfl rfl rfl rfl ?_
              refine dmB rfl rfl rfl rfl rfl ?_
              refine dSkip rfl rfl rfl ?_
              refine dSkip rfl rfl rfl ?_
              refine dSkip rfl rfl rfl ?_
              refine dSkip rfl rfl rfl ?_
              refine dpk (e := true) rfl rfl rfl rfl rfl rfl ?_
              refine dmB rfl rfl rfl rfl rfl ?_
              refine dSkip rfl rfl rfl ?_
              refine dSkip rfl rfl rfl ?_
              refine dSkip rfl rfl rfl ?_
              refine dSkip rfl rfl rfl ?_
              refine dpk (e := true) rfl rfl rfl rfl rfl rfl ?_
              refine dNilR 47 [0, 0, 0, 0, 0, 0, 0, 0, 0, 0, 0, 0, 0, 0, 0, 0, 0, 0, 0, 0, 0, 0, 0, 0, 0, 0, 0, 0, 0, 0, 0, 0, 0, 0, 0, 0, 0, 0, 0, 0, 0, 0, 0, 0, 0, 1, 0] [] rfl rfl (by decide +kernel) trivial ?_
              refine qSeq ?_
              refine wT rfl ?_
              refine wSeq ?_
              refine wRegion ?_
              refine raB rfl rfl rfl rfl rfl ?_
              refine rNil ?_
              refine qSeq ?_
              refine wRet ?_
              refine qSeqR ?_
              refine qBlockR ?_
              refine qSeqR ?_
              refine qLoopR ?_
              refine qBlockR ?_
              refine qSeqR ?_
              refine finF rfl fun hw => ?_
              obtain ⟨w1, w2, w3, w4, w5, w6⟩ := hw
              obtain ⟨⟨v1, v2, v3, v4, v5, v6, v7⟩, v8⟩ := w5 i0 (by omega)
              first
              | omega
              | exact h7_2 ⟨by have := v1.1; omega, v1.2⟩
              | (have v9 := v8 (by omega); unfold ltS at v9; rw [pred_nat, v9] at h7_17; cases h7_17)
          · refine rNil ?_
            refine qSeq ?_
            refine wF rfl ?_
            refine wExit ?_
            refine qSeqX ?_
            refine qLoopX ?_
            refine qBlockX ?_
            refine qSeq ?_
            refine wSeq ?_
            refine wSeq ?_
            refine wRegion ?_
            refine raI rfl rfl rfl rfl rfl ?_
            refine rNil ?_
            refine qSeq ?_
            refine wBlock ?_
            refine wLoop ?_
            refine loopGo (fun (a : Nat × Nat) => [.unk, .ptr 0 0 0, .unk, .unk, .unk, .unk, .unk, .unk, .int .i64 a.1]) (fun (a : Nat × Nat) => hp [(0, ⟨[[.int .i64 t.tm, .int .i64 t.nx, .sl false n1 (t.lk.map (Lk.T b)), .sl false n2 (t.sn.map Sn.T)]], 4, 35⟩)]) (fun (a : Nat × Nat) => a.2) (fun (a : Nat × Nat) => a.1 ≤ t.sn.length ∧ (∀ j, j < a.1 → snAt t j) ∧ 1 ≤ a.2) (fun (a : Nat × Nat) => t.sn.length - a.1) (0, m0) ?_ ?_ ?_ ?_ ?_
            · exact ⟨Nat.zero_le _, all0, hK0.2.2⟩
            · (repeat first | exact LE.nil _ | refine LE.unk _ _ ?_ | refine LE.eq _ _ _ rfl ?_)
            · (repeat first | exact lessH0 | (refine lessHc ?_ ?_; (first | (first | ((simp (disch := omega) only [↓app0, ↓appC, ↓updS, ↓updN, ↓hpS, ↓hpN]) <;> first | rfl | assumption) | assumption | rfl) | fail)))
            · exact Nat.le_refl _
            intro ⟨i, m3⟩ hI ih
            dsimp only at hI ⊢
            refine lStep ?_
            refine wSeq ?_
            refine wSeq ?_
            refine wRegion ?_
            refine rmI rfl rfl rfl rfl rfl ?_
            refine rfa (off := 3) (s := 1) (r := false) rfl rfl rfl (Nat.succ_ne_zero _) rfl rfl rfl ?_
            (apply rlc (v := .sl _ _ _) rfl rfl; (first | ((simp (disch := omega) only [↓app0, ↓appC, ↓updS, ↓updN, ↓hpS, ↓hpN]) <;> first | rfl | assumption) | assumption | rfl); rfl; rfl; rfl; rfl; rfl; rfl)
            refine rll rfl rfl rfl rfl rfl rfl ?_
            refine rlt rfl rfl rfl rfl rfl rfl ?_ ?_ <;> intro h23_4
            · refine rNil ?_
              refine qSeq ?_
              refine wT rfl ?_
              refine wSkip ?_
              refine qSeq ?_
              refine wSeq ?_
              refine wBlock ?_
              refine wSeq ?_
              refine wRegion ?_
              refine rfa (off := 3) (s := 1) (r := false) rfl rfl rfl (Nat.succ_ne_zero _) rfl rfl rfl ?_
              (apply rlc (v := .sl _ _ _) rfl rfl; (first | ((simp (disch := omega) only [↓app0, ↓appC, ↓updS, ↓updN, ↓hpS, ↓hpN]) <;> first | rfl | assumption) | assumption | rfl); rfl; rfl; rfl; rfl; rfl; rfl)
              refine rmI rfl rfl rfl rfl rfl ?_
              (apply rixl rfl rfl rfl rfl; (first | omega | assumption | (focus (simp; omega))); (first | rfl | assumption | (first | exact getMap (Lk.T b) Lk0 (k := i0) (by omega) | exact getMap Sn.T Sn0 (k := i) (by omega) | exact getMap wtT (0, 0) (k := k) (by omega) | exact getMap wtT (0, 0) (k := q) (by omega) | exact getMap (Lk.T b) Lk0 (by omega) | exact getMap Sn.T Sn0 (by omega) | exact getMap wtT (0, 0) (by omega))); rfl; rfl; rfl; rfl)
              refine rlir (vs := [.int _ _, .int _ _, .int _ _, .int _ _, .int _ _, .int _ _]) rfl rfl rfl (Nat.le_of_ble_eq_true rfl) rfl rfl rfl rfl ?_
              refine ral rfl rfl rfl rfl rfl rfl ?_
              (apply rst (u := .agg [.int _ _, .int _ _, .int _ _, .int _ _, .int _ _, .int _ _]) rfl rfl rfl; (first | ((simp (disch := omega) only [↓app0, ↓appC, ↓updS, ↓updN, ↓hpS, ↓hpN]) <;> first | rfl | assumption) | assumption | rfl); rfl; rfl; rfl; rfl; rfl; (exact Nat.le_of_ble_eq_true rfl); rfl; rfl; rfl)
              refine rNil ?_
              refine qSeq ?_
              refine wSeq ?_
              refine wDraw [0, 1, 3, 7, 15, 31, 63, 127, 255, 511, 1023, 2047, 4095, 8191, 16383, 32767, 65535, 131071, 262143, 524287, 1048575, 2097151, 1048575, 5242879, 16777215, 33554431, 67108863, 1048575, 135266303, 536870911, 1073741823, 2147483647] rfl (by decide +kernel) ?_
              refine dfa (off := 0) (s := 1) (r := false) rfl rfl rfl (Nat.succ_ne_zero _) rfl rfl rfl ?_
              (apply dlc (v := .int _ _) rfl rfl; (first | ((simp (disch := omega) only [↓app0, ↓appC, ↓updS, ↓updN, ↓hpS, ↓hpN]) <;> first | rfl | assumption) | assumption | rfl); rfl; rfl; rfl; rfl; rfl; rfl)
              refine dclP (p84 _ _ _) rfl rfl rfl rfl rfl rfl ?_ ?_ <;> intro h26_2
              · refine dnot (c := true) rfl rfl rfl rfl rfl ?_
                refine dmB rfl rfl rfl rfl rfl ?_
                refine dfa (off := 1) (s := 1) (r := false) rfl rfl rfl (Nat.succ_ne_zero _) rfl rfl rfl ?_
                (apply dlc (v := .int _ _) rfl rfl; (first | ((simp (disch := omega) only [↓app0, ↓appC, ↓updS, ↓updN, ↓hpS, ↓hpN]) <;> first | rfl | assumption) | assumption | rfl); rfl; rfl; rfl; rfl; rfl; rfl)
                refine dclP (p84 _ _ _) rfl rfl rfl rfl rfl rfl ?_ ?_ <;> intro h26_7
                · refine dnot (c := true) rfl rfl rfl rfl rfl ?_
                  refine dpk (e := false) rfl rfl rfl rfl rfl rfl ?_
                  refine dmB rfl rfl rfl rfl rfl ?_
                  refine dfa (off := 2) (s := 4) (r := true) rfl rfl rfl (Nat.succ_ne_zero _) rfl rfl rfl ?_
                  (apply dlr (vs := [.int _ _, .int _ _, .int _ _, .int _ _]) rfl rfl; (first | ((simp (disch := omega) only [↓app0, ↓appC, ↓updS, ↓updN, ↓hpS, ↓hpN]) <;> first | rfl | assumption) | assumption | rfl); rfl; rfl; (exact Nat.le_of_ble_eq_true rfl); rfl; rfl; rfl; rfl)
                  refine dclP (s82 (t.sn.getD i Sn0).an) rfl rfl rfl rfl rfl rfl ?_ ?_ <;> intro h26_13
                  · refine dnot (c := true) rfl rfl rfl rfl rfl ?_
                    refine dpk (e := false) rfl rfl rfl rfl rfl rfl ?_
                    refine dmB rfl rfl rfl rfl rfl ?_
                    refine dmI rfl rfl rfl rfl rfl ?_
                    refine dgt rfl rfl rfl rfl rfl rfl ?_ ?_ <;> intro h26_18
                    · refine dmB rfl rfl rfl rfl rfl ?_
                      refine dfa (off := 3) (s := 1) (r := false) rfl rfl rfl (Nat.succ_ne_zero _) rfl rfl rfl ?_
                      (apply dlc (v := .sl _ _ _) rfl rfl; (first | ((simp (disch := omega) only [↓app0, ↓appC, ↓updS, ↓updN, ↓hpS, ↓hpN]) <;> first | rfl | assumption) | assumption | rfl); rfl; rfl; rfl; rfl; rfl; rfl)
                      refine dmI rfl rfl rfl rfl rfl ?_
                      refine dsubF rfl rfl rfl ?_ ?_ rfl rfl rfl ?_
                      · (first | omega | assumption | (focus (simp; omega)))
                      · (first | omega | assumption | (focus (simp; omega)))
                      (apply dixl rfl rfl rfl rfl; (first | omega | assumption | (focus (simp; omega))); (first | rfl | assumption | (first | exact getMap (Lk.T b) Lk0 (k := i0) (by omega) | exact getMap Sn.T Sn0 (k := i) (by omega) | exact getMap wtT (0, 0) (k := k) (by omega) | exact getMap wtT (0, 0) (k := q) (by omega) | exact getMap (Lk.T b) Lk0 (by omega) | exact getMap Sn.T Sn0 (by omega) | exact getMap wtT (0, 0) (by omega))); rfl; rfl; rfl; rfl)
                      refine dfai (off := 0) (s := 1) (r := false) rfl rfl rfl (Nat.succ_ne_zero _) rfl rfl rfl rfl ?_
                      refine dlic (v := .int _ _) rfl rfl rfl rfl rfl rfl rfl rfl ?_
                      refine dfa (off := 0) (s := 1) (r := false) rfl rfl rfl (Nat.succ_ne_zero _) rfl rfl rfl ?_
                      (apply dlc (v := .int _ _) rfl rfl; (first | ((simp (disch := omega) only [↓app0, ↓appC, ↓updS, ↓updN, ↓hpS, ↓hpN]) <;> first | rfl | assumption) | assumption | rfl); rfl; rfl; rfl; rfl; rfl; rfl)
                      refine dge rfl rfl rfl rfl rfl rfl ?_ ?_ <;> intro h26_29
                      · refine dpk (e := true) rfl rfl rfl rfl rfl rfl ?_
                        refine dpk (e := true) rfl rfl rfl rfl rfl rfl ?_
                        refine dNilR 32 [0, 0, 0, 1, 0, 0, 0, 0, 0, 0, 1, 0, 0, 0, 0, 0, 0, 0, 0, 1, 0, 0, 0, 0, 0, 1, 0, 0, 0, 0, 1, 0] [] rfl rfl (by decide +kernel) trivial ?_
                        refine qSeq ?_
                        refine wT rfl ?_
                        refine wSeq ?_
                        refine wRegion ?_
                        refine raB rfl rfl rfl rfl rfl ?_
                        refine rNil ?_
                        refine qSeq ?_
                        refine wRet ?_
                        refine qBlockR ?_
                        refine qSeqR ?_
                        refine qLoopR ?_
                        refine qBlockR ?_
                        refine qSeqR ?_
                        refine finF rfl fun hw => ?_
                        obtain ⟨w1, w2, w3, w4, w5, w6⟩ := hw
                        obtain ⟨⟨v1, v2, v3⟩, v4⟩ := w6 i (by omega)
                        first | exact h26_2 v1 | exact h26_7 v2 | exact h26_13 v3 | (have v5 := v4 (by omega); rw [pred_nat] at h26_29; exact Int.not_le.mpr v5 h26_29)
                      · refine dpk (e := false) rfl rfl rfl rfl rfl rfl ?_
                        refine dpk (e := false) rfl rfl rfl rfl rfl rfl ?_
                        refine dNilR 32 [0, 0, 0, 1, 0, 0, 0, 0, 0, 0, 1, 0, 0, 0, 0, 0, 0, 0, 0, 1, 0, 0, 0, 0, 0, 1, 0, 0, 0, 0, 1, 0] [] rfl rfl (by decide +kernel) trivial ?_
                        refine qSeq ?_
                        refine wF rfl ?_
                        refine wSkip ?_
                        refine qBlock ?_
                        refine qSeq ?_
                        refine wRegion ?_
                        refine rmI rfl rfl rfl rfl rfl ?_
                        refine raddF rfl rfl rfl ?_ ?_ rfl rfl rfl ?_
                        · (first | omega | assumption | (focus (simp; omega)))
                        · (first | omega | assumption | (focus (simp; omega)))
                        refine raI rfl rfl rfl rfl rfl ?_
                        refine rNil ?_
                        refine qLoop ?_
                        exact wlH (ih (i + 1, m3 + 1) ⟨by dsimp only; omega, allS hI.2.1 ⟨⟨h26_2, h26_7, h26_13⟩, fun h0 => by first | omega | (rw [pred_nat] at h26_29; exact Int.not_le.mp h26_29)⟩, by dsimp only; omega⟩ (by dsimp only; omega)) (by (repeat first | exact LE.nil _ | refine LE.unk _ _ ?_ | refine LE.eq _ _ _ rfl ?_)) (by (repeat first | exact lessH0 | (refine lessHc ?_ ?_; (first | (first | ((simp (disch := omega) only [↓app0, ↓appC, ↓updS, ↓updN, ↓hpS, ↓hpN]) <;> first | rfl | assumption) | assumption | rfl) | fail)))) (Nat.le_refl _)
                    · refine dmB rfl rfl rfl rfl rfl ?_
                      refine dSkip rfl rfl rfl ?_
                      refine dSkip rfl rfl rfl ?_
                      refine dSkip rfl rfl rfl ?_
                      refine dSkip rfl rfl rfl ?_
                      refine dSkip rfl rfl rfl ?_
                      refine dSkip rfl rfl rfl ?_
                      refine dSkip rfl rfl rfl ?_
                      refine dSkip rfl rfl rfl ?_
                      refine dSkip rfl rfl rfl ?_
                      refine dSkip rfl rfl rfl ?_
                      refine dpk (e := false) rfl rfl rfl rfl rfl rfl ?_
                      refine dpk (e := false) rfl rfl rfl rfl rfl rfl ?_
                      refine dNilR 32 [0, 0, 0, 0, 0, 0, 0, 0, 0, 0, 0, 0, 0, 0, 0, 0, 0, 0, 0, 1, 0, 0, 0, 0, 0, 1, 0, 0, 0, 0, 1, 0] [] rfl rfl (by decide +kernel) trivial ?_
                      refine qSeq ?_
                      refine wF rfl ?_
                      refine wSkip ?_
                      refine qBlock ?_
                      refine qSeq ?_
                      refine wRegion ?_
                      refine rmI rfl rfl rfl rfl rfl ?_
                      refine raddF rfl rfl rfl ?_ ?_ rfl rfl rfl ?_
                      · (first | omega | assumption | (focus (simp; omega)))
                      · (first | omega | assumption | (focus (simp; omega)))
                      refine raI rfl rfl rfl rfl rfl ?_
                      refine rNil ?_
                      refine qLoop ?_
                      exact wlH (ih (i + 1, m3 + 1) ⟨by dsimp only; omega, allS hI.2.1 ⟨⟨h26_2, h26_7, h26_13⟩, fun h0 => by first | omega | (rw [pred_nat] at h26_29; exact Int.not_le.mp h26_29)⟩, by dsimp only; omega⟩ (by dsimp only; omega)) (by (repeat first | exact LE.nil _ | refine LE.unk _ _ ?_ | refine LE.eq _ _ _ rfl ?_)) (by (repeat first | exact lessH0 | (refine lessHc ?_ ?_; (first | (first | ((simp (disch := omega) only [↓app0, ↓appC, ↓updS, ↓updN, ↓hpS, ↓hpN]) <;> first | rfl | assumption) | assumption | rfl) | fail)))) (Nat.le_refl _)
                  · refine dnot (c := false) rfl rfl rfl rfl rfl ?_
                    refine dpk (e := true) rfl rfl rfl rfl rfl rfl ?_
                    refine dmB rfl rfl rfl rfl rfl ?_
                    refine dSkip rfl rfl rfl ?_
                    refine dSkip rfl rfl rfl ?_
                    refine dSkip rfl rfl rfl ?_
                    refine dSkip rfl rfl rfl ?_
                    refine dSkip rfl rfl rfl ?_
                    refine dSkip rfl rfl rfl ?_
                    refine dSkip rfl rfl rfl ?_
                    refine dSkip rfl rfl rfl ?_
                    refine dSkip rfl rfl rfl ?_
                    refine dSkip rfl rfl rfl ?_
                    refine dSkip rfl rfl rfl ?_
                    refine dSkip rfl rfl rfl ?_
                    refine dSkip rfl rfl rfl ?_
                    refine dSkip rfl rfl rfl ?_
                    refine dpk (e := true) rfl rfl rfl rfl rfl rfl ?_
                    refine dNilR 32 [0, 0, 0, 0, 0, 0, 0, 0, 0, 0, 0, 0, 0, 0, 0, 0, 0, 0, 0, 1, 0, 0, 0, 0, 0, 1, 0, 0, 0, 0, 1, 0] [] rfl rfl (by decide +kernel) trivial ?_
                    refine qSeq ?_
                    refine wT rfl ?_
                    refine wSeq ?_
                    refine wRegion ?_
                    refine raB rfl rfl rfl rfl rfl ?_
                    refine rNil ?_
                    refine qSeq ?_
                    refine wRet ?_
                    refine qBlockR ?_
                    refine qSeqR ?_
                    refine qLoopR ?_
                    refine qBlockR ?_
                    refine qSeqR ?_
                    refine finF rfl fun hw => ?_
                    obtain ⟨w1, w2, w3, w4, w5, w6⟩ := hw
                    obtain ⟨⟨v1, v2, v3⟩, v4⟩ := w6 i (by omega)
                    first | exact h26_2 v1 | exact h26_7 v2 | exact h26_13 v3 | (have v5 := v4 (by omega); rw [pred_nat] at h26_29; exact Int.not_le.mpr v5 h26_29)
                · refine dnot (c := false) rfl rfl rfl rfl rfl ?_
                  refine dpk (e := true) rfl rfl rfl rfl rfl rfl ?_
                  refine dmB rfl rfl rfl rfl rfl ?_
                  refine dSkip rfl rfl rfl ?_
                  refine dSkip rfl rfl rfl ?_
                  refine dSkip rfl rfl rfl ?_
                  refine dSkip rfl rfl rfl ?_
                  refine dpk (e := true) rfl rfl rfl rfl rfl rfl ?_
                  refine dmB rfl rfl rfl rfl rfl ?_
                  refine dSkip rfl rfl rfl ?_
                  refine dSkip rfl rfl rfl ?_
                  refine dSkip rfl rfl rfl ?_
                  refine dSkip rfl rfl rfl ?_
                  refine dSkip rfl rfl rfl ?_
                  refine dSkip rfl rfl rfl ?_
                  refine dSkip rfl rfl rfl ?_
                  refine dSkip rfl rfl rfl ?_
                  refine dSkip rfl rfl rfl ?_
                  refine dSkip rfl rfl rfl ?_
                  refine dSkip rfl rfl rfl ?_
                  refine dSkip rfl rfl rfl ?_
                  refine dSkip rfl rfl rfl ?_
                  refine dSkip rfl rfl rfl ?_
                  refine dpk (e := true) rfl rfl rfl rfl rfl rfl ?_
                  refine dNilR 32 [0, 0, 0, 0, 0, 0, 0, 0, 0, 0, 0, 0, 0, 0, 0, 0, 0, 0, 0, 0, 0, 0, 0, 0, 0, 1, 0, 0, 0, 0, 1, 0] [] rfl rfl (by decide +kernel) trivial ?_
                  refine qSeq ?_
                  refine wT rfl ?_
                  refine wSeq ?_
                  refine wRegion ?_
                  refine raB rfl rfl rfl rfl rfl ?_
                  refine rNil ?_
                  refine qSeq ?_
                  refine wRet ?_
                  refine qBlockR ?_
                  refine qSeqR ?_
                  refine qLoopR ?_
                  refine qBlockR ?_
                  refine qSeqR ?_
                  refine finF rfl fun hw => ?_
                  obtain ⟨w1, w2, w3, w4, w5, w6⟩ := hw
                  obtain ⟨⟨v1, v2, v3⟩, v4⟩ := w6 i (by omega)
                  first | exact h26_2 v1 | exact h26_7 v2 | exact h26_13 v3 | (have v5 := v4 (by omega); rw [pred_nat] at h26_29; exact Int.not_le.mpr v5 h26_29)
              · refine dnot (c := false) rfl rfl rfl rfl rfl ?_
                refine dmB rfl rfl rfl rfl rfl ?_
                refine dSkip rfl rfl rfl ?_
                refine dSkip rfl rfl rfl ?_
                refine dSkip rfl rfl rfl ?_
                refine dSkip rfl rfl rfl ?_
                refine dpk (e := true) rfl rfl rfl rfl rfl rfl ?_
                refine dmB rfl rfl rfl rfl rfl ?_
                refine dSkip rfl rfl rfl ?_
                refine dSkip rfl rfl rfl ?_
                refine dSkip rfl rfl rfl ?_
                refine dSkip rfl rfl rfl ?_
                refine dpk (e := true) rfl rfl rfl rfl rfl rfl ?_
                refine dmB rfl rfl rfl rfl rfl ?_
                refine dSkip rfl rfl rfl ?_
                refine dSkip rfl rfl rfl ?_
                refine dSkip rfl rfl rfl ?_
                refine dSkip rfl rfl rfl ?_
                refine dSkip rfl rfl rfl ?_
                refine dSkip rfl rfl rfl ?_
                refine dSkip rfl rfl rfl ?_
                refine dSkip rfl rfl rfl ?_
                refine dSkip rfl rfl rfl ?_
                refine dSkip rfl rfl rfl ?_
                refine dSkip rfl rfl rfl ?_
                refine dSkip rfl rfl rfl ?_
                refine dSkip rfl rfl rfl ?_
                refine dSkip rfl rfl rfl ?_
                refine dpk (e := true) rfl rfl rfl rfl rfl rfl ?_
                refine dNilR 32 [0, 0, 0, 0, 0, 0, 0, 0, 0, 0, 0, 0, 0, 0, 0, 0, 0, 0, 0, 0, 0, 0, 0, 0, 0, 0, 0, 0, 0, 0, 1, 0] [] rfl rfl (by decide +kernel) trivial ?_
                refine qSeq ?_
                refine wT rfl ?_
                refine wSeq ?_
                refine wRegion ?_
                refine raB rfl rfl rfl rfl rfl ?_
                refine rNil ?_
                refine qSeq ?_
                refine wRet ?_
                refine qBlockR ?_
                refine qSeqR ?_
                refine qLoopR ?_
                refine qBlockR ?_
                refine qSeqR ?_
                refine finF rfl fun hw => ?_
                obtain ⟨w1, w2, w3, w4, w5, w6⟩ := hw
                obtain ⟨⟨v1, v2, v3⟩, v4⟩ := w6 i (by omega)
                first | exact h26_2 v1 | exact h26_7 v2 | exact h26_13 v3 | (have v5 := v4 (by omega); rw [pred_nat] at h26_29; exact Int.not_le.mpr v5 h26_29)
            · refine rNil ?_
              refine qSeq ?_
              refine wF rfl ?_
              refine wExit ?_
              refine qSeqX ?_
              refine qLoopX ?_
              refine qBlockX ?_
              refine qSeq ?_
              refine wSeq ?_
              refine wRegion ?_
              refine raB rfl rfl rfl rfl rfl ?_
              refine rNil ?_
              refine qSeq ?_
              refine wRet ?_
              exact finT rfl ⟨h1_2, h1_7, by omega, by omega, fun j hj => hK0.2.1 j (by omega), fun j hj => hI.2.1 j (by omega)⟩
    · refine rnot (c := false) rfl rfl rfl rfl rfl ?_
      refine rpk (e := true) rfl rfl rfl rfl rfl rfl ?_
      refine rmB rfl rfl rfl rfl rfl ?_
      refine rSkip rfl rfl rfl ?_
      refine rSkip rfl rfl rfl ?_
      refine rSkip rfl rfl rfl ?_
      refine rSkip rfl rfl rfl ?_
      refine rpk (e := true) rfl rfl rfl rfl rfl rfl ?_
      refine rmB rfl rfl rfl rfl rfl ?_
      refine rSkip rfl rfl rfl ?_
      refine rSkip rfl rfl rfl ?_
      refine rSkip rfl rfl rfl ?_
      refine rSkip rfl rfl rfl ?_
      refine rpk (e := true) rfl rfl rfl rfl rfl rfl ?_
      refine rNil ?_
      refine qSeq ?_
      refine wT rfl ?_
      refine wSeq ?_
      refine wRegion ?_
      refine raB rfl rfl rfl rfl rfl ?_
      refine rNil ?_
      refine qSeq ?_
      refine wRet ?_
      refine qSeqR ?_
      refine finF rfl fun hw => ?_; obtain ⟨w1, w2, w3, w4, w5, w6⟩ := hw; first | contradiction | omega
  · refine rnot (c := false) rfl rfl rfl rfl rfl ?_
    refine rmB rfl rfl rfl rfl rfl ?_
    refine rSkip rfl rfl rfl ?_
    refine rSkip rfl rfl rfl ?_
    refine rSkip rfl rfl rfl ?_
    refine rSkip rfl rfl rfl ?_
    refine rpk (e := true) rfl rfl rfl rfl rfl rfl ?_
    refine rmB rfl rfl rfl rfl rfl ?_
    refine rSkip rfl rfl rfl ?_
    refine rSkip rfl rfl rfl ?_
    refine rSkip rfl rfl rfl ?_
    refine rSkip rfl rfl rfl ?_
    refine rpk (e := true) rfl rfl rfl rfl rfl rfl ?_
    refine rmB rfl rfl rfl rfl rfl ?_
    refine rSkip rfl rfl rfl ?_
    refine rSkip rfl rfl rfl ?_
    refine rSkip rfl rfl rfl ?_
    refine rSkip rfl rfl rfl ?_
    refine rpk (e := true) rfl rfl rfl rfl rfl rfl ?_
    refine rNil ?_
    refine qSeq ?_
    refine wT rfl ?_
    refine wSeq ?_
    refine wRegion ?_
    refine raB rfl rfl rfl rfl rfl ?_
    refine rNil ?_
    refine qSeq ?_
    refine wRet ?_
    refine qSeqR ?_
    refine finF rfl fun hw => ?_; obtain ⟨w1, w2, w3, w4, w5, w6⟩ := hw; first | contradiction | omega
end Go.Proofs.Ytknnniaoboaghaa
