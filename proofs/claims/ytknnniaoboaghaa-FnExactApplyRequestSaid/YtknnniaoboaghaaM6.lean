import Derived.Test.YtknnniaoboaghaaM5
namespace Go.Proofs.Ytknnniaoboaghaa
open Go.V
set_option linter.unusedVariables false
set_option linter.unusedSimpArgs false
set_option maxRecDepth 20000
set_option maxHeartbeats 4000000
theorem s82 (a : An) : Pure En 82 [.agg a.T] [.one (.bool (decide a.OK))] := by
 refine Pure.of_wp Try.func82 rfl (Nat.le_of_ble_eq_true rfl) ?_
 refine wSeq (wRegion (rbx (u := .agg [.int _ _, .int _ _, .int _ _, .int _ _]) rfl rfl rfl rfl rfl rfl rfl (raB rfl rfl rfl rfl rfl (rNil (qSeq (wSeq (wRegion (rfa (off := 0) (s := 1) (r := false) rfl rfl rfl (Nat.succ_ne_zero _) rfl rfl rfl (rlc (v := .int _ _) rfl rfl rfl rfl rfl rfl rfl rfl rfl ?_)))))))))
 refine rclP (p84 _ _ _) rfl rfl rfl rfl rfl rfl ?_ ?_ <;> intro h1_2
 ·refine rmB rfl rfl rfl rfl rfl (rfa (off := 1) (s := 1) (r := false) rfl rfl rfl (Nat.succ_ne_zero _) rfl rfl rfl (rlc (v := .int _ _) rfl rfl rfl rfl rfl rfl rfl rfl rfl ?_))
  refine rclP (p84 _ _ _) rfl rfl rfl rfl rfl rfl ?_ ?_ <;> intro h1_6
  ·refine rpk (e := true) rfl rfl rfl rfl rfl rfl (rmB rfl rfl rfl rfl rfl (rfa (off := 2) (s := 1) (r := false) rfl rfl rfl (Nat.succ_ne_zero _) rfl rfl rfl (rlc (v := .int _ _) rfl rfl rfl rfl rfl rfl rfl rfl rfl ?_)))
   refine rclP (p84 _ _ _) rfl rfl rfl rfl rfl rfl ?_ ?_ <;> intro h1_11
   ·refine rpk (e := true) rfl rfl rfl rfl rfl rfl (rmB rfl rfl rfl rfl rfl (rfa (off := 3) (s := 1) (r := false) rfl rfl rfl (Nat.succ_ne_zero _) rfl rfl rfl (rlc (v := .int _ _) rfl rfl rfl rfl rfl rfl rfl rfl rfl ?_)))
    refine rclP (p84 _ _ _) rfl rfl rfl rfl rfl rfl ?_ ?_ <;> intro h1_16
    ·refine rpk (e := true) rfl rfl rfl rfl rfl rfl (raB rfl rfl rfl rfl rfl (rNil (qSeq (wRet ?_))))
     first | (refine finT rfl ?_; unfold An.OK; omega) | (refine finF rfl ?_; unfold An.OK; omega)
    ·refine rpk (e := false) rfl rfl rfl rfl rfl rfl (raB rfl rfl rfl rfl rfl (rNil (qSeq (wRet ?_))))
     first | (refine finT rfl ?_; unfold An.OK; omega) | (refine finF rfl ?_; unfold An.OK; omega)
   ·refine rpk (e := false) rfl rfl rfl rfl rfl rfl (rmB rfl rfl rfl rfl rfl (rSkip rfl rfl rfl (rSkip rfl rfl rfl (rSkip rfl rfl rfl (rpk (e := false) rfl rfl rfl rfl rfl rfl (raB rfl rfl rfl rfl rfl (rNil (qSeq (wRet ?_)))))))))
    first | (refine finT rfl ?_; unfold An.OK; omega) | (refine finF rfl ?_; unfold An.OK; omega)
  ·refine rpk (e := false) rfl rfl rfl rfl rfl rfl (rmB rfl rfl rfl rfl rfl (rSkip rfl rfl rfl (rSkip rfl rfl rfl (rSkip rfl rfl rfl (rpk (e := false) rfl rfl rfl rfl rfl rfl (rmB rfl rfl rfl rfl rfl (rSkip rfl rfl rfl (rSkip rfl rfl rfl (rSkip rfl rfl rfl (rpk (e := false) rfl rfl rfl rfl rfl rfl (raB rfl rfl rfl rfl rfl (rNil ?_))))))))))))
   refine qSeq (wRet ?_)
   first | (refine finT rfl ?_; unfold An.OK; omega) | (refine finF rfl ?_; unfold An.OK; omega)
 ·refine rmB rfl rfl rfl rfl rfl (rSkip rfl rfl rfl (rSkip rfl rfl rfl (rSkip rfl rfl rfl (rpk (e := false) rfl rfl rfl rfl rfl rfl (rmB rfl rfl rfl rfl rfl (rSkip rfl rfl rfl (rSkip rfl rfl rfl (rSkip rfl rfl rfl (rpk (e := false) rfl rfl rfl rfl rfl rfl (rmB rfl rfl rfl rfl rfl (rSkip rfl rfl rfl (rSkip rfl rfl rfl ?_))))))))))))
  refine rSkip rfl rfl rfl (rpk (e := false) rfl rfl rfl rfl rfl rfl (raB rfl rfl rfl rfl rfl (rNil (qSeq (wRet ?_)))))
  first | (refine finT rfl ?_; unfold An.OK; omega) | (refine finF rfl ?_; unfold An.OK; omega)
theorem s42 (t : Tb) (b n1 n2 : Bool) : Pure En 42 [.agg (t.T b n1 n2)] [.one (.bool (decide t.OK))] := by
 have hl : (t.lk.map (Lk.T b)).length = t.lk.length := List.length_map ..
 have hl2 : (t.sn.map Sn.T).length = t.sn.length := List.length_map ..
 refine Pure.of_wp Try.func42 rfl (Nat.le_of_ble_eq_true rfl) ?_
 refine wSeq (wRegion (rbx (u := .agg [.int _ _, .int _ _, _, _]) rfl rfl rfl rfl rfl rfl rfl (raB rfl rfl rfl rfl rfl (rNil (qSeq (wSeq (wSeq (wRegion (rfa (off := 0) (s := 1) (r := false) rfl rfl rfl (Nat.succ_ne_zero _) rfl rfl rfl ?_)))))))))
 (apply rlc (v := .int _ _) rfl rfl; exact Q0; rfl; rfl; rfl; rfl; rfl; rfl)
 refine rclP (p84 _ _ _) rfl rfl rfl rfl rfl rfl ?_ ?_ <;> intro h1_2
 ·refine rnot (c := true) rfl rfl rfl rfl rfl (rmB rfl rfl rfl rfl rfl (rfa (off := 1) (s := 1) (r := false) rfl rfl rfl (Nat.succ_ne_zero _) rfl rfl rfl ?_))
  (apply rlc (v := .int _ _) rfl rfl; exact Q0; rfl; rfl; rfl; rfl; rfl; rfl)
  refine rclP (p84 _ _ _) rfl rfl rfl rfl rfl rfl ?_ ?_ <;> intro h1_7
  ·refine rnot (c := true) rfl rfl rfl rfl rfl (rpk (e := false) rfl rfl rfl rfl rfl rfl (rmB rfl rfl rfl rfl rfl (rfa (off := 2) (s := 1) (r := false) rfl rfl rfl (Nat.succ_ne_zero _) rfl rfl rfl ?_)))
   (apply rlc (v := .sl _ _ _) rfl rfl; exact Q0; rfl; rfl; rfl; rfl; rfl; rfl)
   refine rll rfl rfl rfl rfl rfl rfl ?_
   refine rgt rfl rfl rfl rfl rfl rfl ?_ ?_ <;> intro h1_14
   ·refine rpk (e := true) rfl rfl rfl rfl rfl rfl (rmB rfl rfl rfl rfl rfl (rSkip rfl rfl rfl (rSkip rfl rfl rfl (rSkip rfl rfl rfl (rSkip rfl rfl rfl (rpk (e := true) rfl rfl rfl rfl rfl rfl (rNil (qSeq (wT rfl (wSeq (wRegion (raB rfl rfl rfl rfl rfl ?_))))))))))))
    refine rNil (qSeq (wRet (qSeqR ?_)))
    refine finF rfl fun hw => ?_; obtain ⟨w1, w2, w3, w4, w5, w6⟩ := hw; first | contradiction | omega
   ·refine rpk (e := false) rfl rfl rfl rfl rfl rfl (rmB rfl rfl rfl rfl rfl (rfa (off := 3) (s := 1) (r := false) rfl rfl rfl (Nat.succ_ne_zero _) rfl rfl rfl ?_))
    (apply rlc (v := .sl _ _ _) rfl rfl; exact Q0; rfl; rfl; rfl; rfl; rfl; rfl)
    refine rll rfl rfl rfl rfl rfl rfl ?_
    refine rgt rfl rfl rfl rfl rfl rfl ?_ ?_ <;> intro h1_20
    ·refine rpk (e := true) rfl rfl rfl rfl rfl rfl (rNil (qSeq (wT rfl (wSeq (wRegion (raB rfl rfl rfl rfl rfl (rNil (qSeq (wRet (qSeqR ?_))))))))))
     refine finF rfl fun hw => ?_; obtain ⟨w1, w2, w3, w4, w5, w6⟩ := hw; first | contradiction | omega
    ·refine rpk (e := false) rfl rfl rfl rfl rfl rfl (rNil (qSeq (wF rfl (wSkip (qSeq (wSeq (wSeq (wRegion (raI rfl rfl rfl rfl rfl (rNil (qSeq (wBlock ?_))))))))))))
     refine wLoop ?_
     refine loopGo (fun (a : Nat × Nat) => [.unk, .ptr 0 0 0, .unk, .int .i64 a.1]) (fun (a : Nat × Nat) => hp [(0, ⟨[[.int .i64 t.tm, .int .i64 t.nx, .sl false n1 (t.lk.map (Lk.T b)), .sl false n2 (t.sn.map Sn.T)]], 4, 35⟩)]) (fun (a : Nat × Nat) => a.2) (fun (a : Nat × Nat) => a.1 ≤ t.lk.length ∧ (∀ j, j < a.1 → lkAt t j) ∧ 1 ≤ a.2) (fun (a : Nat × Nat) => t.lk.length - a.1) (0, 1) ?_ ?_ ?_ ?_ ?_
     ·exact ⟨Nat.zero_le _, all0, Nat.le_refl _⟩
     ·(repeat first | exact LE.nil _ | refine LE.unk _ _ ?_ | refine LE.eq _ _ _ rfl ?_)
     ·(repeat first | exact lessH0 | (refine lessHc ?_ ?_; exact Q34))
     ·exact Nat.le_refl _
     intro ⟨i0, m0⟩ hI ih
     dsimp only at hI ⊢
     have hK0 := hI
     have ih0 := ih
     have hlw : ((t.lk.getD i0 Lk0).ws.map wtT).length = (t.lk.getD i0 Lk0).ws.length := List.length_map ..
     refine lStep (wSeq (wSeq (wRegion (rmI rfl rfl rfl rfl rfl (rfa (off := 2) (s := 1) (r := false) rfl rfl rfl (Nat.succ_ne_zero _) rfl rfl rfl ?_)))))
     (apply rlc (v := .sl _ _ _) rfl rfl; exact Q0; rfl; rfl; rfl; rfl; rfl; rfl)
     refine rll rfl rfl rfl rfl rfl rfl ?_
     refine rlt rfl rfl rfl rfl rfl rfl ?_ ?_ <;> intro h4_4
     ·refine rNil (qSeq (wT rfl (wSkip (qSeq (wSeq (wBlock (wSeq (wRegion (rfa (off := 2) (s := 1) (r := false) rfl rfl rfl (Nat.succ_ne_zero _) rfl rfl rfl ?_)))))))))
      (apply rlc (v := .sl _ _ _) rfl rfl; exact Q0; rfl; rfl; rfl; rfl; rfl; rfl)
      refine rmI rfl rfl rfl rfl rfl ?_
      (apply rixl rfl rfl rfl rfl; exact Q5; exact Q16; rfl; rfl; rfl; rfl)
      refine rlir (vs := [.str _, .int _ _, .int _ _, .int _ _, _]) rfl rfl rfl (Nat.le_of_ble_eq_true rfl) rfl rfl rfl rfl (ral rfl rfl rfl rfl rfl rfl ?_)
      (apply rst (u := .agg [.str _, .int _ _, .int _ _, .int _ _, _]) rfl rfl rfl; exact Q0; rfl; rfl; rfl; rfl; rfl; (exact Nat.le_of_ble_eq_true rfl); rfl; rfl; rfl)
      refine rNil (qSeq (wSeq (wSeq (wDraw [0, 1, 3, 7, 15, 31, 63, 127, 255, 511, 255, 1279, 4095, 8191, 16383, 255, 33023, 131071, 262143, 524287, 1048575, 2097151, 4194303, 2097151, 10485759, 27262975, 67108863, 134217727, 268435455, 536870911, 1073741823, 2147483647, 4294967295, 8589934591, 17179869183, 34359738367, 68719476735, 137438953471, 274877906943, 549755813887, 1099511627775, 2199023255551, 4398046511103, 8796093022207, 17592186044415, 35184372088831, 70368744177663] rfl (by decide +kernel) ?_))))
      refine dfa (off := 0) (s := 1) (r := false) rfl rfl rfl (Nat.succ_ne_zero _) rfl rfl rfl ?_
      (apply dlc (v := .str _) rfl rfl; exact Q0; rfl; rfl; rfl; rfl; rfl; rfl)
      refine dclP (p85 _ _) rfl rfl rfl rfl rfl rfl ?_ ?_ <;> intro h7_2
      ·refine dnot (c := true) rfl rfl rfl rfl rfl (dmB rfl rfl rfl rfl rfl (dmI rfl rfl rfl rfl rfl ?_))
       refine dgt rfl rfl rfl rfl rfl rfl ?_ ?_ <;> intro h7_6
       ·refine dmB rfl rfl rfl rfl rfl (dfa (off := 2) (s := 1) (r := false) rfl rfl rfl (Nat.succ_ne_zero _) rfl rfl rfl ?_)
        (apply dlc (v := .sl _ _ _) rfl rfl; exact Q0; rfl; rfl; rfl; rfl; rfl; rfl)
        refine dmI rfl rfl rfl rfl rfl (dsubF rfl rfl rfl ?_ ?_ rfl rfl rfl ?_)
        ·exact Q5
        ·exact Q5
        (apply dixl rfl rfl rfl rfl; exact Q5; exact Q16; rfl; rfl; rfl; rfl)
        refine dfai (off := 0) (s := 1) (r := false) rfl rfl rfl (Nat.succ_ne_zero _) rfl rfl rfl rfl (dlic (v := .str _) rfl rfl rfl rfl rfl rfl rfl rfl (dfa (off := 0) (s := 1) (r := false) rfl rfl rfl (Nat.succ_ne_zero _) rfl rfl rfl ?_))
        (apply dlc (v := .str _) rfl rfl; exact Q0; rfl; rfl; rfl; rfl; rfl; rfl)
        refine dsge rfl rfl rfl rfl rfl rfl ?_ ?_ <;> intro h7_17
        ·refine dpk (e := true) rfl rfl rfl rfl rfl rfl (dpk (e := true) rfl rfl rfl rfl rfl rfl (dmB rfl rfl rfl rfl rfl (dSkip rfl rfl rfl (dSkip rfl rfl rfl (dSkip rfl rfl rfl (dSkip rfl rfl rfl (dSkip rfl rfl rfl (dSkip rfl rfl rfl (dSkip rfl rfl rfl (dpk (e := true) rfl rfl rfl rfl rfl rfl (dmB rfl rfl rfl rfl rfl (dSkip rfl rfl rfl ?_))))))))))))
         refine dSkip rfl rfl rfl (dSkip rfl rfl rfl (dSkip rfl rfl rfl (dpk (e := true) rfl rfl rfl rfl rfl rfl (dmB rfl rfl rfl rfl rfl (dSkip rfl rfl rfl (dSkip rfl rfl rfl (dSkip rfl rfl rfl (dSkip rfl rfl rfl (dpk (e := true) rfl rfl rfl rfl rfl rfl (dmB rfl rfl rfl rfl rfl (dSkip rfl rfl rfl (dSkip rfl rfl rfl ?_))))))))))))
         refine dSkip rfl rfl rfl (dSkip rfl rfl rfl (dpk (e := true) rfl rfl rfl rfl rfl rfl (dNilR 47 [0, 0, 0, 0, 0, 0, 0, 0, 0, 0, 0, 0, 0, 0, 0, 0, 0, 0, 0, 0, 0, 0, 0, 0, 0, 0, 0, 0, 0, 0, 1, 0, 0, 0, 0, 0, 0, 1, 0, 0, 0, 0, 0, 0, 0, 1, 0] [] rfl rfl (by decide +kernel) trivial ?_)))
         refine qSeq (wT rfl (wSeq (wRegion (raB rfl rfl rfl rfl rfl (rNil (qSeq (wRet (qSeqR (qBlockR (qSeqR (qLoopR (qBlockR ?_))))))))))))
         refine qSeqR ?_
         refine finF rfl fun hw => ?_
         obtain ⟨w1, w2, w3, w4, w5, w6⟩ := hw
         obtain ⟨⟨v1, v2, v3, v4, v5, v6, v7⟩, v8⟩ := w5 i0 (by omega)
         first
         | omega
         | exact h7_2 ⟨by have := v1.1; omega, v1.2⟩
         | (have v9 := v8 (by omega); unfold ltS at v9; rw [pred_nat, v9] at h7_17; cases h7_17)
        ·refine dpk (e := false) rfl rfl rfl rfl rfl rfl (dpk (e := false) rfl rfl rfl rfl rfl rfl (dmB rfl rfl rfl rfl rfl (dfa (off := 1) (s := 1) (r := false) rfl rfl rfl (Nat.succ_ne_zero _) rfl rfl rfl ?_)))
         (apply dlc (v := .int _ _) rfl rfl; exact Q0; rfl; rfl; rfl; rfl; rfl; rfl)
         refine dfa (off := 1) (s := 1) (r := false) rfl rfl rfl (Nat.succ_ne_zero _) rfl rfl rfl ?_
         (apply dlc (v := .int _ _) rfl rfl; exact Q0; rfl; rfl; rfl; rfl; rfl; rfl)
         refine dsubF rfl rfl rfl ?_ ?_ rfl rfl rfl ?_
         ·exact Q5
         ·exact Q5
         refine dclP (p84 _ _ _) rfl rfl rfl rfl rfl rfl ?_ ?_ <;> intro h7_26
         ·refine dnot (c := true) rfl rfl rfl rfl rfl (dpk (e := false) rfl rfl rfl rfl rfl rfl (dmB rfl rfl rfl rfl rfl (dfa (off := 2) (s := 1) (r := false) rfl rfl rfl (Nat.succ_ne_zero _) rfl rfl rfl ?_)))
          (apply dlc (v := .int _ _) rfl rfl; exact Q0; rfl; rfl; rfl; rfl; rfl; rfl)
          refine dclP (p84 _ _ _) rfl rfl rfl rfl rfl rfl ?_ ?_ <;> intro h7_32
          ·refine dnot (c := true) rfl rfl rfl rfl rfl (dpk (e := false) rfl rfl rfl rfl rfl rfl (dmB rfl rfl rfl rfl rfl (dfa (off := 3) (s := 1) (r := false) rfl rfl rfl (Nat.succ_ne_zero _) rfl rfl rfl ?_)))
           (apply dlc (v := .int _ _) rfl rfl; exact Q0; rfl; rfl; rfl; rfl; rfl; rfl)
           refine dclP (p84 _ _ _) rfl rfl rfl rfl rfl rfl ?_ ?_ <;> intro h7_38
           ·refine dnot (c := true) rfl rfl rfl rfl rfl (dpk (e := false) rfl rfl rfl rfl rfl rfl (dmB rfl rfl rfl rfl rfl (dfa (off := 4) (s := 1) (r := false) rfl rfl rfl (Nat.succ_ne_zero _) rfl rfl rfl ?_)))
            (apply dlc (v := .sl _ _ _) rfl rfl; exact Q0; rfl; rfl; rfl; rfl; rfl; rfl)
            refine dll rfl rfl rfl rfl rfl rfl ?_
            refine dgt rfl rfl rfl rfl rfl rfl ?_ ?_ <;> intro h7_45
            ·refine dpk (e := true) rfl rfl rfl rfl rfl rfl (dNilR 47 [0, 0, 0, 1, 0, 0, 0, 0, 0, 1, 0, 0, 0, 0, 0, 1, 0, 0, 0, 0, 0, 0, 1, 0, 1, 0, 0, 0, 0, 0, 1, 0, 0, 0, 0, 0, 0, 1, 0, 0, 0, 0, 0, 0, 0, 1, 0] [] rfl rfl (by decide +kernel) trivial ?_)
             refine qSeq (wT rfl (wSeq (wRegion (raB rfl rfl rfl rfl rfl (rNil (qSeq (wRet (qSeqR (qBlockR (qSeqR (qLoopR (qBlockR ?_))))))))))))
             refine qSeqR ?_
             refine finF rfl fun hw => ?_
             obtain ⟨w1, w2, w3, w4, w5, w6⟩ := hw
             obtain ⟨⟨v1, v2, v3, v4, v5, v6, v7⟩, v8⟩ := w5 i0 (by omega)
             first
             | omega
             | exact h7_2 ⟨by have := v1.1; omega, v1.2⟩
             | (have v9 := v8 (by omega); unfold ltS at v9; rw [pred_nat, v9] at h7_17; cases h7_17)
            ·refine dpk (e := false) rfl rfl rfl rfl rfl rfl (dNilR 47 [0, 0, 0, 1, 0, 0, 0, 0, 0, 1, 0, 0, 0, 0, 0, 1, 0, 0, 0, 0, 0, 0, 1, 0, 1, 0, 0, 0, 0, 0, 1, 0, 0, 0, 0, 0, 0, 1, 0, 0, 0, 0, 0, 0, 0, 1, 0] [] rfl rfl (by decide +kernel) trivial ?_)
             refine qSeq (wF rfl (wSkip (qSeq (wSeq (wSeq (wRegion (rfa (off := 2) (s := 1) (r := false) rfl rfl rfl (Nat.succ_ne_zero _) rfl rfl rfl ?_)))))))
             (apply rlc (v := .int _ _) rfl rfl; exact Q0; rfl; rfl; rfl; rfl; rfl; rfl)
             refine rlt rfl rfl rfl rfl rfl rfl ?_ ?_ <;> intro h9_2
             ·refine rmB rfl rfl rfl rfl rfl (rfa (off := 3) (s := 1) (r := false) rfl rfl rfl (Nat.succ_ne_zero _) rfl rfl rfl ?_)
              (apply rlc (v := .int _ _) rfl rfl; exact Q0; rfl; rfl; rfl; rfl; rfl; rfl)
              refine rne rfl rfl rfl rfl rfl rfl ?_ ?_ <;> intro h9_6
              ·refine rmB rfl rfl rfl rfl rfl (rSkip rfl rfl rfl (rSkip rfl rfl rfl (rSkip rfl rfl rfl (rSkip rfl rfl rfl (rpk (e := true) rfl rfl rfl rfl rfl rfl (rpk (e := true) rfl rfl rfl rfl rfl rfl (rNil (qSeq (wT rfl (wSeq (wRegion (raB rfl rfl rfl rfl rfl ?_))))))))))))
               refine rNil (qSeq (wRet (qSeqR (qBlockR (qSeqR (qLoopR (qBlockR (qSeqR ?_))))))))
               refine finF rfl fun hw => ?_
               obtain ⟨w1, w2, w3, w4, w5, w6⟩ := hw
               obtain ⟨⟨v1, v2, v3, v4, v5, v6, v7⟩, v8⟩ := w5 i0 (by omega)
               have v9 := v6 (by omega)
               omega
              ·refine rmB rfl rfl rfl rfl rfl (rfa (off := 4) (s := 1) (r := false) rfl rfl rfl (Nat.succ_ne_zero _) rfl rfl rfl ?_)
               (apply rlc (v := .sl _ _ _) rfl rfl; exact Q0; rfl; rfl; rfl; rfl; rfl; rfl)
               refine rll rfl rfl rfl rfl rfl rfl ?_
               refine rne rfl rfl rfl rfl rfl rfl ?_ ?_ <;> intro h9_11
               ·refine rpk (e := true) rfl rfl rfl rfl rfl rfl (rpk (e := true) rfl rfl rfl rfl rfl rfl (rNil (qSeq (wT rfl (wSeq (wRegion (raB rfl rfl rfl rfl rfl (rNil (qSeq (wRet (qSeqR (qBlockR ?_))))))))))))
                refine qSeqR (qLoopR (qBlockR (qSeqR ?_)))
                refine finF rfl fun hw => ?_
                obtain ⟨w1, w2, w3, w4, w5, w6⟩ := hw
                obtain ⟨⟨v1, v2, v3, v4, v5, v6, v7⟩, v8⟩ := w5 i0 (by omega)
                have v9 := v6 (by omega)
                omega
               ·refine rpk (e := false) rfl rfl rfl rfl rfl rfl (rpk (e := false) rfl rfl rfl rfl rfl rfl (rNil (qSeq (wF rfl (wSkip (qSeq (wSeq (wRegion (raI rfl rfl rfl rfl rfl (rNil (qSeq (wBlock ?_))))))))))))
                refine wLoop ?_
                refine loopGo (fun (a : Nat × Nat) => [.unk, .ptr 0 0 0, .unk, .int .i64 i0, .ptr m0 0 0, .int .i64 a.1]) (fun (a : Nat × Nat) => hp [(0, ⟨[[.int .i64 t.tm, .int .i64 t.nx, .sl false n1 (t.lk.map (Lk.T b)), .sl false n2 (t.sn.map Sn.T)]], 4, 35⟩), (m0, ⟨[[.str (t.lk.getD i0 Lk0).nm, .int .i64 (t.lk.getD i0 Lk0).tk, .int .i64 (t.lk.getD i0 Lk0).hd, .int .i64 (t.lk.getD i0 Lk0).ex, .sl false b ((t.lk.getD i0 Lk0).ws.map wtT)]], 5, 29⟩)]) (fun (a : Nat × Nat) => a.2) (fun (a : Nat × Nat) => a.1 ≤ (t.lk.getD i0 Lk0).ws.length ∧ (∀ j, j < a.1 → wOK (t.lk.getD i0 Lk0) j) ∧ m0 < a.2) (fun (a : Nat × Nat) => (t.lk.getD i0 Lk0).ws.length - a.1) (0, m0 + 1) ?_ ?_ ?_ ?_ ?_
                ·exact ⟨Nat.zero_le _, all0, Nat.lt_succ_self _⟩
                ·(repeat first | exact LE.nil _ | refine LE.unk _ _ ?_ | refine LE.eq _ _ _ rfl ?_)
                ·(repeat first | exact lessH0 | (refine lessHc ?_ ?_; exact Q34))
                ·exact Nat.le_refl _
                intro ⟨k, m1⟩ hI ih
                dsimp only at hI ⊢
                have hK1 := hI
                have ih1 := ih
                refine lStep (wSeq (wSeq (wRegion (rmI rfl rfl rfl rfl rfl (rfa (off := 4) (s := 1) (r := false) rfl rfl rfl (Nat.succ_ne_zero _) rfl rfl rfl ?_)))))
                (apply rlc (v := .sl _ _ _) rfl rfl; exact Q0; rfl; rfl; rfl; rfl; rfl; rfl)
                refine rll rfl rfl rfl rfl rfl rfl ?_
                refine rlt rfl rfl rfl rfl rfl rfl ?_ ?_ <;> intro h12_4
                ·refine rNil (qSeq (wT rfl (wSkip (qSeq (wSeq (wBlock (wSeq ?_)))))))
                 exact absurd h12_4 (by omega)
                ·refine rNil (qSeq (wF rfl (wExit (qSeqX (qLoopX (qBlockX (qBlock (qSeq (wRegion (rmI rfl rfl rfl rfl rfl (raddF rfl rfl rfl ?_ ?_ rfl rfl rfl ?_)))))))))))
                 ·exact Q5
                 ·exact Q5
                 refine raI rfl rfl rfl rfl rfl (rNil (qLoop ?_))
                 refine wlH (ih0 (i0 + 1, m1) ⟨by dsimp only; omega, allS hK0.2.1 ⟨⟨⟨by have := h7_2.1; omega, h7_2.2⟩, by omega, by omega, by omega, by omega, fun he => by omega, fun j hj => hI.2.1 j (by omega)⟩, fun h0 => ?_⟩, by dsimp only; omega⟩ (by dsimp only; omega)) (by (repeat first | exact LE.nil _ | refine LE.unk _ _ ?_ | refine LE.eq _ _ _ rfl ?_)) (by (repeat first | exact lessH0 | (refine lessHc ?_ ?_; exact Q34))) (Nat.le_refl _)
                 first | omega | (rw [pred_nat] at h7_17; unfold ltS; simpa using h7_17)
             ·refine rmB rfl rfl rfl rfl rfl (rSkip rfl rfl rfl (rSkip rfl rfl rfl (rSkip rfl rfl rfl (rSkip rfl rfl rfl (rSkip rfl rfl rfl (rSkip rfl rfl rfl (rSkip rfl rfl rfl (rSkip rfl rfl rfl (rSkip rfl rfl rfl (rpk (e := false) rfl rfl rfl rfl rfl rfl (rNil (qSeq ?_))))))))))))
              refine wF rfl (wSkip (qSeq (wSeq (wRegion (raI rfl rfl rfl rfl rfl (rNil (qSeq (wBlock (wLoop ?_)))))))))
              refine loopGo (fun (a : Nat × Nat) => [.unk, .ptr 0 0 0, .unk, .int .i64 i0, .ptr m0 0 0, .int .i64 a.1]) (fun (a : Nat × Nat) => hp [(0, ⟨[[.int .i64 t.tm, .int .i64 t.nx, .sl false n1 (t.lk.map (Lk.T b)), .sl false n2 (t.sn.map Sn.T)]], 4, 35⟩), (m0, ⟨[[.str (t.lk.getD i0 Lk0).nm, .int .i64 (t.lk.getD i0 Lk0).tk, .int .i64 (t.lk.getD i0 Lk0).hd, .int .i64 (t.lk.getD i0 Lk0).ex, .sl false b ((t.lk.getD i0 Lk0).ws.map wtT)]], 5, 29⟩)]) (fun (a : Nat × Nat) => a.2) (fun (a : Nat × Nat) => a.1 ≤ (t.lk.getD i0 Lk0).ws.length ∧ (∀ j, j < a.1 → wOK (t.lk.getD i0 Lk0) j) ∧ m0 < a.2) (fun (a : Nat × Nat) => (t.lk.getD i0 Lk0).ws.length - a.1) (0, m0 + 1) ?_ ?_ ?_ ?_ ?_
              ·exact ⟨Nat.zero_le _, all0, Nat.lt_succ_self _⟩
              ·(repeat first | exact LE.nil _ | refine LE.unk _ _ ?_ | refine LE.eq _ _ _ rfl ?_)
              ·(repeat first | exact lessH0 | (refine lessHc ?_ ?_; exact Q34))
              ·exact Nat.le_refl _
              intro ⟨k, m1⟩ hI ih
              dsimp only at hI ⊢
              have hK1 := hI
              have ih1 := ih
              refine lStep (wSeq (wSeq (wRegion (rmI rfl rfl rfl rfl rfl (rfa (off := 4) (s := 1) (r := false) rfl rfl rfl (Nat.succ_ne_zero _) rfl rfl rfl ?_)))))
              (apply rlc (v := .sl _ _ _) rfl rfl; exact Q0; rfl; rfl; rfl; rfl; rfl; rfl)
              refine rll rfl rfl rfl rfl rfl rfl ?_
              refine rlt rfl rfl rfl rfl rfl rfl ?_ ?_ <;> intro h12_4
              ·refine rNil (qSeq (wT rfl (wSkip (qSeq (wSeq (wBlock (wSeq (wRegion (rfa (off := 4) (s := 1) (r := false) rfl rfl rfl (Nat.succ_ne_zero _) rfl rfl rfl ?_)))))))))
               (apply rlc (v := .sl _ _ _) rfl rfl; exact Q0; rfl; rfl; rfl; rfl; rfl; rfl)
               refine rmI rfl rfl rfl rfl rfl ?_
               (apply rixl rfl rfl rfl rfl; exact Q5; exact Q16; rfl; rfl; rfl; rfl)
               refine rlir (vs := [.int _ _, .int _ _]) rfl rfl rfl (Nat.le_of_ble_eq_true rfl) rfl rfl rfl rfl (ral rfl rfl rfl rfl rfl rfl ?_)
               (apply rst (u := .agg [.int _ _, .int _ _]) rfl rfl rfl; exact Q0; rfl; rfl; rfl; rfl; rfl; (exact Nat.le_of_ble_eq_true rfl); rfl; rfl; rfl)
               refine rNil (qSeq (wSeq (wSeq (wRegion (rfa (off := 0) (s := 1) (r := false) rfl rfl rfl (Nat.succ_ne_zero _) rfl rfl rfl ?_)))))
               (apply rlc (v := .int _ _) rfl rfl; exact Q0; rfl; rfl; rfl; rfl; rfl; rfl)
               refine rclP (p84 _ _ _) rfl rfl rfl rfl rfl rfl ?_ ?_ <;> intro h15_2
               ·refine rnot (c := true) rfl rfl rfl rfl rfl (rmB rfl rfl rfl rfl rfl (rfa (off := 1) (s := 1) (r := false) rfl rfl rfl (Nat.succ_ne_zero _) rfl rfl rfl ?_))
                (apply rlc (v := .int _ _) rfl rfl; exact Q0; rfl; rfl; rfl; rfl; rfl; rfl)
                refine rclP (p84 _ _ _) rfl rfl rfl rfl rfl rfl ?_ ?_ <;> intro h15_7
                ·refine rnot (c := true) rfl rfl rfl rfl rfl (rpk (e := false) rfl rfl rfl rfl rfl rfl (rmB rfl rfl rfl rfl rfl (rfa (off := 0) (s := 1) (r := false) rfl rfl rfl (Nat.succ_ne_zero _) rfl rfl rfl ?_)))
                 (apply rlc (v := .int _ _) rfl rfl; exact Q0; rfl; rfl; rfl; rfl; rfl; rfl)
                 refine rfa (off := 2) (s := 1) (r := false) rfl rfl rfl (Nat.succ_ne_zero _) rfl rfl rfl ?_
                 (apply rlc (v := .int _ _) rfl rfl; exact Q0; rfl; rfl; rfl; rfl; rfl; rfl)
                 refine req rfl rfl rfl rfl rfl rfl ?_ ?_ <;> intro h15_15
                 ·refine rpk (e := true) rfl rfl rfl rfl rfl rfl (rNil (qSeq (wT rfl (wSeq (wRegion (raB rfl rfl rfl rfl rfl (rNil (qSeq (wRet (qSeqR (qBlockR (qSeqR ?_))))))))))))
                  refine qLoopR (qBlockR (qBlockR (qSeqR (qLoopR (qBlockR (qSeqR ?_))))))
                  refine finF rfl fun hw => ?_
                  obtain ⟨w1, w2, w3, w4, w5, w6⟩ := hw
                  obtain ⟨⟨v1, v2, v3, v4, v5, v6, v7⟩, v8⟩ := w5 i0 (by omega)
                  obtain ⟨u1, u2, u3, u4⟩ := v7 k (by omega)
                  first | omega | contradiction
                 ·refine rpk (e := false) rfl rfl rfl rfl rfl rfl (rNil (qSeq (wF rfl (wSkip (qSeq (wSeq (wRegion (raI rfl rfl rfl rfl rfl (rNil (qSeq (wBlock (wLoop ?_))))))))))))
                  refine loopGo (fun (q : Nat) => [.unk, .ptr 0 0 0, .unk, .int .i64 i0, .ptr m0 0 0, .int .i64 k, .ptr m1 0 0, .int .i64 q]) (fun (q : Nat) => hp [(0, ⟨[[.int .i64 t.tm, .int .i64 t.nx, .sl false n1 (t.lk.map (Lk.T b)), .sl false n2 (t.sn.map Sn.T)]], 4, 35⟩), (m0, ⟨[[.str (t.lk.getD i0 Lk0).nm, .int .i64 (t.lk.getD i0 Lk0).tk, .int .i64 (t.lk.getD i0 Lk0).hd, .int .i64 (t.lk.getD i0 Lk0).ex, .sl false b ((t.lk.getD i0 Lk0).ws.map wtT)]], 5, 29⟩), (m1, ⟨[[.int .i64 ((t.lk.getD i0 Lk0).ws.getD k (0, 0)).1, .int .i64 ((t.lk.getD i0 Lk0).ws.getD k (0, 0)).2]], 2, 123⟩)]) (fun (q : Nat) => m1 + 1) (fun (q : Nat) => q ≤ k ∧ ∀ j, j < q → ¬ ((t.lk.getD i0 Lk0).ws.getD j (0, 0)).1 = ((t.lk.getD i0 Lk0).ws.getD k (0, 0)).1) (fun (q : Nat) => k - q) 0 ?_ ?_ ?_ ?_ ?_
                  ·exact ⟨Nat.zero_le _, all0⟩
                  ·(repeat first | exact LE.nil _ | refine LE.unk _ _ ?_ | refine LE.eq _ _ _ rfl ?_)
                  ·(repeat first | exact lessH0 | (refine lessHc ?_ ?_; exact Q34))
                  ·exact Nat.le_refl _
                  intro q hI ih
                  refine lStep (wSeq (wSeq (wRegion (rmI rfl rfl rfl rfl rfl (rmI rfl rfl rfl rfl rfl ?_)))))
                  refine rlt rfl rfl rfl rfl rfl rfl ?_ ?_ <;> intro h18_2
                  ·refine rNil (qSeq (wT rfl (wSkip (qSeq (wSeq (wBlock (wSeq (wDraw [0, 1, 0, 7, 15, 31, 0, 64, 255] rfl (by decide +kernel) ?_))))))))
                   refine dfa (off := 4) (s := 1) (r := false) rfl rfl rfl (Nat.succ_ne_zero _) rfl rfl rfl ?_
                   (apply dlc (v := .sl _ _ _) rfl rfl; exact Q0; rfl; rfl; rfl; rfl; rfl; rfl)
                   refine dmI rfl rfl rfl rfl rfl ?_
                   (apply dixl rfl rfl rfl rfl; exact Q5; exact Q16; rfl; rfl; rfl; rfl)
                   refine dfai (off := 0) (s := 1) (r := false) rfl rfl rfl (Nat.succ_ne_zero _) rfl rfl rfl rfl (dlic (v := .int _ _) rfl rfl rfl rfl rfl rfl rfl rfl (dfa (off := 0) (s := 1) (r := false) rfl rfl rfl (Nat.succ_ne_zero _) rfl rfl rfl ?_))
                   (apply dlc (v := .int _ _) rfl rfl; exact Q0; rfl; rfl; rfl; rfl; rfl; rfl)
                   refine deq rfl rfl rfl rfl rfl rfl ?_ ?_ <;> intro h20_8
                   ·refine dNilR 9 [0, 1, 0, 0, 0, 0, 0, 1, 0] [] rfl rfl (by decide +kernel) trivial ?_
                    refine qSeq (wT rfl (wSeq (wRegion (raB rfl rfl rfl rfl rfl (rNil (qSeq (wRet (qBlockR (qSeqR (qLoopR (qBlockR (qBlockR ?_))))))))))))
                    refine qSeqR (qLoopR (qBlockR (qBlockR (qSeqR (qLoopR (qBlockR (qSeqR ?_)))))))
                    refine finF rfl fun hw => ?_
                    obtain ⟨w1, w2, w3, w4, w5, w6⟩ := hw
                    obtain ⟨⟨v1, v2, v3, v4, v5, v6, v7⟩, v8⟩ := w5 i0 (by omega)
                    obtain ⟨u1, u2, u3, u4⟩ := v7 k (by omega)
                    exact u4 q (by omega) h20_8
                   ·refine dNilR 9 [0, 1, 0, 0, 0, 0, 0, 1, 0] [] rfl rfl (by decide +kernel) trivial ?_
                    refine qSeq (wF rfl (wSkip (qBlock (qSeq (wRegion (rmI rfl rfl rfl rfl rfl (raddF rfl rfl rfl ?_ ?_ rfl rfl rfl ?_)))))))
                    ·exact Q5
                    ·exact Q5
                    refine raI rfl rfl rfl rfl rfl (rNil (qLoop ?_))
                    exact wlH (ih (q + 1) ⟨by omega, allS hI.2 h20_8⟩ (by omega)) (by (repeat first | exact LE.nil _ | refine LE.unk _ _ ?_ | refine LE.eq _ _ _ rfl ?_)) (by (repeat first | exact lessH0 | (refine lessHc ?_ ?_; exact Q34))) (Nat.le_refl _)
                  ·refine rNil (qSeq (wF rfl (wExit (qSeqX (qLoopX (qBlockX (qBlock (qSeq (wRegion (rmI rfl rfl rfl rfl rfl (raddF rfl rfl rfl ?_ ?_ rfl rfl rfl ?_)))))))))))
                   ·exact Q5
                   ·exact Q5
                   refine raI rfl rfl rfl rfl rfl (rNil (qLoop ?_))
                   exact wlH (ih1 (k + 1, m1 + 1) ⟨by dsimp only; omega, allS hK1.2.1 ⟨h15_2, by assumption, h15_7, fun j hj => hI.2 j (by omega)⟩, by dsimp only; omega⟩ (by dsimp only; omega)) (by (repeat first | exact LE.nil _ | refine LE.unk _ _ ?_ | refine LE.eq _ _ _ rfl ?_)) (by (repeat first | exact lessH0 | (refine lessHc ?_ ?_; exact Q34))) (Nat.le_refl _)
                ·refine rnot (c := false) rfl rfl rfl rfl rfl (rpk (e := true) rfl rfl rfl rfl rfl rfl (rmB rfl rfl rfl rfl rfl (rSkip rfl rfl rfl (rSkip rfl rfl rfl (rSkip rfl rfl rfl (rSkip rfl rfl rfl (rSkip rfl rfl rfl (rpk (e := true) rfl rfl rfl rfl rfl rfl (rNil (qSeq (wT rfl (wSeq ?_))))))))))))
                 refine wRegion (raB rfl rfl rfl rfl rfl (rNil (qSeq (wRet (qSeqR (qBlockR (qSeqR (qLoopR (qBlockR (qBlockR (qSeqR (qLoopR ?_))))))))))))
                 refine qBlockR (qSeqR ?_)
                 refine finF rfl fun hw => ?_
                 obtain ⟨w1, w2, w3, w4, w5, w6⟩ := hw
                 obtain ⟨⟨v1, v2, v3, v4, v5, v6, v7⟩, v8⟩ := w5 i0 (by omega)
                 obtain ⟨u1, u2, u3, u4⟩ := v7 k (by omega)
                 first | omega | contradiction
               ·refine rnot (c := false) rfl rfl rfl rfl rfl (rmB rfl rfl rfl rfl rfl (rSkip rfl rfl rfl (rSkip rfl rfl rfl (rSkip rfl rfl rfl (rSkip rfl rfl rfl (rpk (e := true) rfl rfl rfl rfl rfl rfl (rmB rfl rfl rfl rfl rfl (rSkip rfl rfl rfl (rSkip rfl rfl rfl (rSkip rfl rfl rfl (rSkip rfl rfl rfl (rSkip rfl rfl rfl ?_))))))))))))
                refine rpk (e := true) rfl rfl rfl rfl rfl rfl (rNil (qSeq (wT rfl (wSeq (wRegion (raB rfl rfl rfl rfl rfl (rNil (qSeq (wRet (qSeqR (qBlockR (qSeqR ?_))))))))))))
                refine qLoopR (qBlockR (qBlockR (qSeqR (qLoopR (qBlockR (qSeqR ?_))))))
                refine finF rfl fun hw => ?_
                obtain ⟨w1, w2, w3, w4, w5, w6⟩ := hw
                obtain ⟨⟨v1, v2, v3, v4, v5, v6, v7⟩, v8⟩ := w5 i0 (by omega)
                obtain ⟨u1, u2, u3, u4⟩ := v7 k (by omega)
                first | omega | contradiction
              ·refine rNil (qSeq (wF rfl (wExit (qSeqX (qLoopX (qBlockX (qBlock (qSeq (wRegion (rmI rfl rfl rfl rfl rfl (raddF rfl rfl rfl ?_ ?_ rfl rfl rfl ?_)))))))))))
               ·exact Q5
               ·exact Q5
               refine raI rfl rfl rfl rfl rfl (rNil (qLoop ?_))
               refine wlH (ih0 (i0 + 1, m1) ⟨by dsimp only; omega, allS hK0.2.1 ⟨⟨⟨by have := h7_2.1; omega, h7_2.2⟩, by omega, by omega, by omega, by omega, fun he => by omega, fun j hj => hI.2.1 j (by omega)⟩, fun h0 => ?_⟩, by dsimp only; omega⟩ (by dsimp only; omega)) (by (repeat first | exact LE.nil _ | refine LE.unk _ _ ?_ | refine LE.eq _ _ _ rfl ?_)) (by (repeat first | exact lessH0 | (refine lessHc ?_ ?_; exact Q34))) (Nat.le_refl _)
               first | omega | (rw [pred_nat] at h7_17; unfold ltS; simpa using h7_17)
           ·refine dnot (c := false) rfl rfl rfl rfl rfl (dpk (e := true) rfl rfl rfl rfl rfl rfl (dmB rfl rfl rfl rfl rfl (dSkip rfl rfl rfl (dSkip rfl rfl rfl (dSkip rfl rfl rfl (dSkip rfl rfl rfl (dpk (e := true) rfl rfl rfl rfl rfl rfl (dNilR 47 [0, 0, 0, 0, 0, 0, 0, 0, 0, 1, 0, 0, 0, 0, 0, 1, 0, 0, 0, 0, 0, 0, 1, 0, 1, 0, 0, 0, 0, 0, 1, 0, 0, 0, 0, 0, 0, 1, 0, 0, 0, 0, 0, 0, 0, 1, 0] [] rfl rfl (by decide +kernel) trivial ?_))))))))
            refine qSeq (wT rfl (wSeq (wRegion (raB rfl rfl rfl rfl rfl (rNil (qSeq (wRet (qSeqR (qBlockR (qSeqR (qLoopR (qBlockR ?_))))))))))))
            refine qSeqR ?_
            refine finF rfl fun hw => ?_
            obtain ⟨w1, w2, w3, w4, w5, w6⟩ := hw
            obtain ⟨⟨v1, v2, v3, v4, v5, v6, v7⟩, v8⟩ := w5 i0 (by omega)
            first
            | omega
            | exact h7_2 ⟨by have := v1.1; omega, v1.2⟩
            | (have v9 := v8 (by omega); unfold ltS at v9; rw [pred_nat, v9] at h7_17; cases h7_17)
          ·refine dnot (c := false) rfl rfl rfl rfl rfl (dpk (e := true) rfl rfl rfl rfl rfl rfl (dmB rfl rfl rfl rfl rfl (dSkip rfl rfl rfl (dSkip rfl rfl rfl (dSkip rfl rfl rfl (dSkip rfl rfl rfl (dpk (e := true) rfl rfl rfl rfl rfl rfl (dmB rfl rfl rfl rfl rfl (dSkip rfl rfl rfl (dSkip rfl rfl rfl (dSkip rfl rfl rfl (dSkip rfl rfl rfl ?_))))))))))))
           refine dpk (e := true) rfl rfl rfl rfl rfl rfl (dNilR 47 [0, 0, 0, 0, 0, 0, 0, 0, 0, 0, 0, 0, 0, 0, 0, 1, 0, 0, 0, 0, 0, 0, 1, 0, 1, 0, 0, 0, 0, 0, 1, 0, 0, 0, 0, 0, 0, 1, 0, 0, 0, 0, 0, 0, 0, 1, 0] [] rfl rfl (by decide +kernel) trivial ?_)
           refine qSeq (wT rfl (wSeq (wRegion (raB rfl rfl rfl rfl rfl (rNil (qSeq (wRet (qSeqR (qBlockR (qSeqR (qLoopR (qBlockR ?_))))))))))))
           refine qSeqR ?_
           refine finF rfl fun hw => ?_
           obtain ⟨w1, w2, w3, w4, w5, w6⟩ := hw
           obtain ⟨⟨v1, v2, v3, v4, v5, v6, v7⟩, v8⟩ := w5 i0 (by omega)
           first
           | omega
           | exact h7_2 ⟨by have := v1.1; omega, v1.2⟩
           | (have v9 := v8 (by omega); unfold ltS at v9; rw [pred_nat, v9] at h7_17; cases h7_17)
         ·refine dnot (c := false) rfl rfl rfl rfl rfl (dpk (e := true) rfl rfl rfl rfl rfl rfl (dmB rfl rfl rfl rfl rfl (dSkip rfl rfl rfl (dSkip rfl rfl rfl (dSkip rfl rfl rfl (dSkip rfl rfl rfl (dpk (e := true) rfl rfl rfl rfl rfl rfl (dmB rfl rfl rfl rfl rfl (dSkip rfl rfl rfl (dSkip rfl rfl rfl (dSkip rfl rfl rfl (dSkip rfl rfl rfl ?_))))))))))))
          refine dpk (e := true) rfl rfl rfl rfl rfl rfl (dmB rfl rfl rfl rfl rfl (dSkip rfl rfl rfl (dSkip rfl rfl rfl (dSkip rfl rfl rfl (dSkip rfl rfl rfl (dpk (e := true) rfl rfl rfl rfl rfl rfl (dNilR 47 [0, 0, 0, 0, 0, 0, 0, 0, 0, 0, 0, 0, 0, 0, 0, 0, 0, 0, 0, 0, 0, 0, 1, 0, 1, 0, 0, 0, 0, 0, 1, 0, 0, 0, 0, 0, 0, 1, 0, 0, 0, 0, 0, 0, 0, 1, 0] [] rfl rfl (by decide +kernel) trivial ?_)))))))
          refine qSeq (wT rfl (wSeq (wRegion (raB rfl rfl rfl rfl rfl (rNil (qSeq (wRet (qSeqR (qBlockR (qSeqR (qLoopR (qBlockR ?_))))))))))))
          refine qSeqR ?_
          refine finF rfl fun hw => ?_
          obtain ⟨w1, w2, w3, w4, w5, w6⟩ := hw
          obtain ⟨⟨v1, v2, v3, v4, v5, v6, v7⟩, v8⟩ := w5 i0 (by omega)
          first
          | omega
          | exact h7_2 ⟨by have := v1.1; omega, v1.2⟩
          | (have v9 := v8 (by omega); unfold ltS at v9; rw [pred_nat, v9] at h7_17; cases h7_17)
       ·refine dmB rfl rfl rfl rfl rfl (dSkip rfl rfl rfl (dSkip rfl rfl rfl (dSkip rfl rfl rfl (dSkip rfl rfl rfl (dSkip rfl rfl rfl (dSkip rfl rfl rfl (dSkip rfl rfl rfl (dSkip rfl rfl rfl (dSkip rfl rfl rfl (dSkip rfl rfl rfl (dpk (e := false) rfl rfl rfl rfl rfl rfl (dpk (e := false) rfl rfl rfl rfl rfl rfl ?_))))))))))))
        refine dmB rfl rfl rfl rfl rfl (dfa (off := 1) (s := 1) (r := false) rfl rfl rfl (Nat.succ_ne_zero _) rfl rfl rfl ?_)
        (apply dlc (v := .int _ _) rfl rfl; exact Q0; rfl; rfl; rfl; rfl; rfl; rfl)
        refine dfa (off := 1) (s := 1) (r := false) rfl rfl rfl (Nat.succ_ne_zero _) rfl rfl rfl ?_
        (apply dlc (v := .int _ _) rfl rfl; exact Q0; rfl; rfl; rfl; rfl; rfl; rfl)
        refine dsubF rfl rfl rfl ?_ ?_ rfl rfl rfl ?_
        ·exact Q5
        ·exact Q5
        refine dclP (p84 _ _ _) rfl rfl rfl rfl rfl rfl ?_ ?_ <;> intro h7_26
        ·refine dnot (c := true) rfl rfl rfl rfl rfl (dpk (e := false) rfl rfl rfl rfl rfl rfl (dmB rfl rfl rfl rfl rfl (dfa (off := 2) (s := 1) (r := false) rfl rfl rfl (Nat.succ_ne_zero _) rfl rfl rfl ?_)))
         (apply dlc (v := .int _ _) rfl rfl; exact Q0; rfl; rfl; rfl; rfl; rfl; rfl)
         refine dclP (p84 _ _ _) rfl rfl rfl rfl rfl rfl ?_ ?_ <;> intro h7_32
         ·refine dnot (c := true) rfl rfl rfl rfl rfl (dpk (e := false) rfl rfl rfl rfl rfl rfl (dmB rfl rfl rfl rfl rfl (dfa (off := 3) (s := 1) (r := false) rfl rfl rfl (Nat.succ_ne_zero _) rfl rfl rfl ?_)))
          (apply dlc (v := .int _ _) rfl rfl; exact Q0; rfl; rfl; rfl; rfl; rfl; rfl)
          refine dclP (p84 _ _ _) rfl rfl rfl rfl rfl rfl ?_ ?_ <;> intro h7_38
          ·refine dnot (c := true) rfl rfl rfl rfl rfl (dpk (e := false) rfl rfl rfl rfl rfl rfl (dmB rfl rfl rfl rfl rfl (dfa (off := 4) (s := 1) (r := false) rfl rfl rfl (Nat.succ_ne_zero _) rfl rfl rfl ?_)))
           (apply dlc (v := .sl _ _ _) rfl rfl; exact Q0; rfl; rfl; rfl; rfl; rfl; rfl)
           refine dll rfl rfl rfl rfl rfl rfl ?_
           refine dgt rfl rfl rfl rfl rfl rfl ?_ ?_ <;> intro h7_45
           ·refine dpk (e := true) rfl rfl rfl rfl rfl rfl (dNilR 47 [0, 0, 0, 1, 0, 0, 0, 0, 0, 1, 0, 0, 0, 0, 0, 1, 0, 0, 0, 0, 0, 0, 1, 0, 1, 0, 0, 0, 0, 0, 0, 0, 0, 0, 0, 0, 0, 0, 0, 0, 0, 0, 0, 0, 0, 1, 0] [] rfl rfl (by decide +kernel) trivial ?_)
            refine qSeq (wT rfl (wSeq (wRegion (raB rfl rfl rfl rfl rfl (rNil (qSeq (wRet (qSeqR (qBlockR (qSeqR (qLoopR (qBlockR ?_))))))))))))
            refine qSeqR ?_
            refine finF rfl fun hw => ?_
            obtain ⟨w1, w2, w3, w4, w5, w6⟩ := hw
            obtain ⟨⟨v1, v2, v3, v4, v5, v6, v7⟩, v8⟩ := w5 i0 (by omega)
            first
            | omega
            | exact h7_2 ⟨by have := v1.1; omega, v1.2⟩
            | (have v9 := v8 (by omega); unfold ltS at v9; rw [pred_nat, v9] at h7_17; cases h7_17)
           ·refine dpk (e := false) rfl rfl rfl rfl rfl rfl (dNilR 47 [0, 0, 0, 1, 0, 0, 0, 0, 0, 1, 0, 0, 0, 0, 0, 1, 0, 0, 0, 0, 0, 0, 1, 0, 1, 0, 0, 0, 0, 0, 0, 0, 0, 0, 0, 0, 0, 0, 0, 0, 0, 0, 0, 0, 0, 1, 0] [] rfl rfl (by decide +kernel) trivial ?_)
            refine qSeq (wF rfl (wSkip (qSeq (wSeq (wSeq (wRegion (rfa (off := 2) (s := 1) (r := false) rfl rfl rfl (Nat.succ_ne_zero _) rfl rfl rfl ?_)))))))
            (apply rlc (v := .int _ _) rfl rfl; exact Q0; rfl; rfl; rfl; rfl; rfl; rfl)
            refine rlt rfl rfl rfl rfl rfl rfl ?_ ?_ <;> intro h9_2
            ·refine rmB rfl rfl rfl rfl rfl (rfa (off := 3) (s := 1) (r := false) rfl rfl rfl (Nat.succ_ne_zero _) rfl rfl rfl ?_)
             (apply rlc (v := .int _ _) rfl rfl; exact Q0; rfl; rfl; rfl; rfl; rfl; rfl)
             refine rne rfl rfl rfl rfl rfl rfl ?_ ?_ <;> intro h9_6
             ·refine rmB rfl rfl rfl rfl rfl (rSkip rfl rfl rfl (rSkip rfl rfl rfl (rSkip rfl rfl rfl (rSkip rfl rfl rfl (rpk (e := true) rfl rfl rfl rfl rfl rfl (rpk (e := true) rfl rfl rfl rfl rfl rfl (rNil (qSeq (wT rfl (wSeq (wRegion (raB rfl rfl rfl rfl rfl ?_))))))))))))
              refine rNil (qSeq (wRet (qSeqR (qBlockR (qSeqR (qLoopR (qBlockR (qSeqR ?_))))))))
              refine finF rfl fun hw => ?_
              obtain ⟨w1, w2, w3, w4, w5, w6⟩ := hw
              obtain ⟨⟨v1, v2, v3, v4, v5, v6, v7⟩, v8⟩ := w5 i0 (by omega)
              have v9 := v6 (by omega)
              omega
             ·refine rmB rfl rfl rfl rfl rfl (rfa (off := 4) (s := 1) (r := false) rfl rfl rfl (Nat.succ_ne_zero _) rfl rfl rfl ?_)
              (apply rlc (v := .sl _ _ _) rfl rfl; exact Q0; rfl; rfl; rfl; rfl; rfl; rfl)
              refine rll rfl rfl rfl rfl rfl rfl ?_
              refine rne rfl rfl rfl rfl rfl rfl ?_ ?_ <;> intro h9_11
              ·refine rpk (e := true) rfl rfl rfl rfl rfl rfl (rpk (e := true) rfl rfl rfl rfl rfl rfl (rNil (qSeq (wT rfl (wSeq (wRegion (raB rfl rfl rfl rfl rfl (rNil (qSeq (wRet (qSeqR (qBlockR ?_))))))))))))
               refine qSeqR (qLoopR (qBlockR (qSeqR ?_)))
               refine finF rfl fun hw => ?_
               obtain ⟨w1, w2, w3, w4, w5, w6⟩ := hw
               obtain ⟨⟨v1, v2, v3, v4, v5, v6, v7⟩, v8⟩ := w5 i0 (by omega)
               have v9 := v6 (by omega)
               omega
              ·refine rpk (e := false) rfl rfl rfl rfl rfl rfl (rpk (e := false) rfl rfl rfl rfl rfl rfl (rNil (qSeq (wF rfl (wSkip (qSeq (wSeq (wRegion (raI rfl rfl rfl rfl rfl (rNil (qSeq (wBlock ?_))))))))))))
               refine wLoop ?_
               refine loopGo (fun (a : Nat × Nat) => [.unk, .ptr 0 0 0, .unk, .int .i64 i0, .ptr m0 0 0, .int .i64 a.1]) (fun (a : Nat × Nat) => hp [(0, ⟨[[.int .i64 t.tm, .int .i64 t.nx, .sl false n1 (t.lk.map (Lk.T b)), .sl false n2 (t.sn.map Sn.T)]], 4, 35⟩), (m0, ⟨[[.str (t.lk.getD i0 Lk0).nm, .int .i64 (t.lk.getD i0 Lk0).tk, .int .i64 (t.lk.getD i0 Lk0).hd, .int .i64 (t.lk.getD i0 Lk0).ex, .sl false b ((t.lk.getD i0 Lk0).ws.map wtT)]], 5, 29⟩)]) (fun (a : Nat × Nat) => a.2) (fun (a : Nat × Nat) => a.1 ≤ (t.lk.getD i0 Lk0).ws.length ∧ (∀ j, j < a.1 → wOK (t.lk.getD i0 Lk0) j) ∧ m0 < a.2) (fun (a : Nat × Nat) => (t.lk.getD i0 Lk0).ws.length - a.1) (0, m0 + 1) ?_ ?_ ?_ ?_ ?_
               ·exact ⟨Nat.zero_le _, all0, Nat.lt_succ_self _⟩
               ·(repeat first | exact LE.nil _ | refine LE.unk _ _ ?_ | refine LE.eq _ _ _ rfl ?_)
               ·(repeat first | exact lessH0 | (refine lessHc ?_ ?_; exact Q34))
               ·exact Nat.le_refl _
               intro ⟨k, m1⟩ hI ih
               dsimp only at hI ⊢
               have hK1 := hI
               have ih1 := ih
               refine lStep (wSeq (wSeq (wRegion (rmI rfl rfl rfl rfl rfl (rfa (off := 4) (s := 1) (r := false) rfl rfl rfl (Nat.succ_ne_zero _) rfl rfl rfl ?_)))))
               (apply rlc (v := .sl _ _ _) rfl rfl; exact Q0; rfl; rfl; rfl; rfl; rfl; rfl)
               refine rll rfl rfl rfl rfl rfl rfl ?_
               refine rlt rfl rfl rfl rfl rfl rfl ?_ ?_ <;> intro h12_4
               ·refine rNil (qSeq (wT rfl (wSkip (qSeq (wSeq (wBlock (wSeq ?_)))))))
                exact absurd h12_4 (by omega)
               ·refine rNil (qSeq (wF rfl (wExit (qSeqX (qLoopX (qBlockX (qBlock (qSeq (wRegion (rmI rfl rfl rfl rfl rfl (raddF rfl rfl rfl ?_ ?_ rfl rfl rfl ?_)))))))))))
                ·exact Q5
                ·exact Q5
                refine raI rfl rfl rfl rfl rfl (rNil (qLoop ?_))
                refine wlH (ih0 (i0 + 1, m1) ⟨by dsimp only; omega, allS hK0.2.1 ⟨⟨⟨by have := h7_2.1; omega, h7_2.2⟩, by omega, by omega, by omega, by omega, fun he => by omega, fun j hj => hI.2.1 j (by omega)⟩, fun h0 => ?_⟩, by dsimp only; omega⟩ (by dsimp only; omega)) (by (repeat first | exact LE.nil _ | refine LE.unk _ _ ?_ | refine LE.eq _ _ _ rfl ?_)) (by (repeat first | exact lessH0 | (refine lessHc ?_ ?_; exact Q34))) (Nat.le_refl _)
                first | omega | (rw [pred_nat] at h7_17; unfold ltS; simpa using h7_17)
            ·refine rmB rfl rfl rfl rfl rfl (rSkip rfl rfl rfl (rSkip rfl rfl rfl (rSkip rfl rfl rfl (rSkip rfl rfl rfl (rSkip rfl rfl rfl (rSkip rfl rfl rfl (rSkip rfl rfl rfl (rSkip rfl rfl rfl (rSkip rfl rfl rfl (rpk (e := false) rfl rfl rfl rfl rfl rfl (rNil (qSeq ?_))))))))))))
             refine wF rfl (wSkip (qSeq (wSeq (wRegion (raI rfl rfl rfl rfl rfl (rNil (qSeq (wBlock (wLoop ?_)))))))))
             refine loopGo (fun (a : Nat × Nat) => [.unk, .ptr 0 0 0, .unk, .int .i64 i0, .ptr m0 0 0, .int .i64 a.1]) (fun (a : Nat × Nat) => hp [(0, ⟨[[.int .i64 t.tm, .int .i64 t.nx, .sl false n1 (t.lk.map (Lk.T b)), .sl false n2 (t.sn.map Sn.T)]], 4, 35⟩), (m0, ⟨[[.str (t.lk.getD i0 Lk0).nm, .int .i64 (t.lk.getD i0 Lk0).tk, .int .i64 (t.lk.getD i0 Lk0).hd, .int .i64 (t.lk.getD i0 Lk0).ex, .sl false b ((t.lk.getD i0 Lk0).ws.map wtT)]], 5, 29⟩)]) (fun (a : Nat × Nat) => a.2) (fun (a : Nat × Nat) => a.1 ≤ (t.lk.getD i0 Lk0).ws.length ∧ (∀ j, j < a.1 → wOK (t.lk.getD i0 Lk0) j) ∧ m0 < a.2) (fun (a : Nat × Nat) => (t.lk.getD i0 Lk0).ws.length - a.1) (0, m0 + 1) ?_ ?_ ?_ ?_ ?_
             ·exact ⟨Nat.zero_le _, all0, Nat.lt_succ_self _⟩
             ·(repeat first | exact LE.nil _ | refine LE.unk _ _ ?_ | refine LE.eq _ _ _ rfl ?_)
             ·(repeat first | exact lessH0 | (refine lessHc ?_ ?_; exact Q34))
             ·exact Nat.le_refl _
             intro ⟨k, m1⟩ hI ih
             dsimp only at hI ⊢
             have hK1 := hI
             have ih1 := ih
             refine lStep (wSeq (wSeq (wRegion (rmI rfl rfl rfl rfl rfl (rfa (off := 4) (s := 1) (r := false) rfl rfl rfl (Nat.succ_ne_zero _) rfl rfl rfl ?_)))))
             (apply rlc (v := .sl _ _ _) rfl rfl; exact Q0; rfl; rfl; rfl; rfl; rfl; rfl)
             refine rll rfl rfl rfl rfl rfl rfl ?_
             refine rlt rfl rfl rfl rfl rfl rfl ?_ ?_ <;> intro h12_4
             ·refine rNil (qSeq (wT rfl (wSkip (qSeq (wSeq (wBlock (wSeq (wRegion (rfa (off := 4) (s := 1) (r := false) rfl rfl rfl (Nat.succ_ne_zero _) rfl rfl rfl ?_)))))))))
              (apply rlc (v := .sl _ _ _) rfl rfl; exact Q0; rfl; rfl; rfl; rfl; rfl; rfl)
              refine rmI rfl rfl rfl rfl rfl ?_
              (apply rixl rfl rfl rfl rfl; exact Q5; exact Q16; rfl; rfl; rfl; rfl)
              refine rlir (vs := [.int _ _, .int _ _]) rfl rfl rfl (Nat.le_of_ble_eq_true rfl) rfl rfl rfl rfl (ral rfl rfl rfl rfl rfl rfl ?_)
              (apply rst (u := .agg [.int _ _, .int _ _]) rfl rfl rfl; exact Q0; rfl; rfl; rfl; rfl; rfl; (exact Nat.le_of_ble_eq_true rfl); rfl; rfl; rfl)
              refine rNil (qSeq (wSeq (wSeq (wRegion (rfa (off := 0) (s := 1) (r := false) rfl rfl rfl (Nat.succ_ne_zero _) rfl rfl rfl ?_)))))
              (apply rlc (v := .int _ _) rfl rfl; exact Q0; rfl; rfl; rfl; rfl; rfl; rfl)
              refine rclP (p84 _ _ _) rfl rfl rfl rfl rfl rfl ?_ ?_ <;> intro h15_2
              ·refine rnot (c := true) rfl rfl rfl rfl rfl (rmB rfl rfl rfl rfl rfl (rfa (off := 1) (s := 1) (r := false) rfl rfl rfl (Nat.succ_ne_zero _) rfl rfl rfl ?_))
               (apply rlc (v := .int _ _) rfl rfl; exact Q0; rfl; rfl; rfl; rfl; rfl; rfl)
               refine rclP (p84 _ _ _) rfl rfl rfl rfl rfl rfl ?_ ?_ <;> intro h15_7
               ·refine rnot (c := true) rfl rfl rfl rfl rfl (rpk (e := false) rfl rfl rfl rfl rfl rfl (rmB rfl rfl rfl rfl rfl (rfa (off := 0) (s := 1) (r := false) rfl rfl rfl (Nat.succ_ne_zero _) rfl rfl rfl ?_)))
                (apply rlc (v := .int _ _) rfl rfl; exact Q0; rfl; rfl; rfl; rfl; rfl; rfl)
                refine rfa (off := 2) (s := 1) (r := false) rfl rfl rfl (Nat.succ_ne_zero _) rfl rfl rfl ?_
                (apply rlc (v := .int _ _) rfl rfl; exact Q0; rfl; rfl; rfl; rfl; rfl; rfl)
                refine req rfl rfl rfl rfl rfl rfl ?_ ?_ <;> intro h15_15
                ·refine rpk (e := true) rfl rfl rfl rfl rfl rfl (rNil (qSeq (wT rfl (wSeq (wRegion (raB rfl rfl rfl rfl rfl (rNil (qSeq (wRet (qSeqR (qBlockR (qSeqR ?_))))))))))))
                 refine qLoopR (qBlockR (qBlockR (qSeqR (qLoopR (qBlockR (qSeqR ?_))))))
                 refine finF rfl fun hw => ?_
                 obtain ⟨w1, w2, w3, w4, w5, w6⟩ := hw
                 obtain ⟨⟨v1, v2, v3, v4, v5, v6, v7⟩, v8⟩ := w5 i0 (by omega)
                 obtain ⟨u1, u2, u3, u4⟩ := v7 k (by omega)
                 first | omega | contradiction
                ·refine rpk (e := false) rfl rfl rfl rfl rfl rfl (rNil (qSeq (wF rfl (wSkip (qSeq (wSeq (wRegion (raI rfl rfl rfl rfl rfl (rNil (qSeq (wBlock (wLoop ?_))))))))))))
                 refine loopGo (fun (q : Nat) => [.unk, .ptr 0 0 0, .unk, .int .i64 i0, .ptr m0 0 0, .int .i64 k, .ptr m1 0 0, .int .i64 q]) (fun (q : Nat) => hp [(0, ⟨[[.int .i64 t.tm, .int .i64 t.nx, .sl false n1 (t.lk.map (Lk.T b)), .sl false n2 (t.sn.map Sn.T)]], 4, 35⟩), (m0, ⟨[[.str (t.lk.getD i0 Lk0).nm, .int .i64 (t.lk.getD i0 Lk0).tk, .int .i64 (t.lk.getD i0 Lk0).hd, .int .i64 (t.lk.getD i0 Lk0).ex, .sl false b ((t.lk.getD i0 Lk0).ws.map wtT)]], 5, 29⟩), (m1, ⟨[[.int .i64 ((t.lk.getD i0 Lk0).ws.getD k (0, 0)).1, .int .i64 ((t.lk.getD i0 Lk0).ws.getD k (0, 0)).2]], 2, 123⟩)]) (fun (q : Nat) => m1 + 1) (fun (q : Nat) => q ≤ k ∧ ∀ j, j < q → ¬ ((t.lk.getD i0 Lk0).ws.getD j (0, 0)).1 = ((t.lk.getD i0 Lk0).ws.getD k (0, 0)).1) (fun (q : Nat) => k - q) 0 ?_ ?_ ?_ ?_ ?_
                 ·exact ⟨Nat.zero_le _, all0⟩
                 ·(repeat first | exact LE.nil _ | refine LE.unk _ _ ?_ | refine LE.eq _ _ _ rfl ?_)
                 ·(repeat first | exact lessH0 | (refine lessHc ?_ ?_; exact Q34))
                 ·exact Nat.le_refl _
                 intro q hI ih
                 refine lStep (wSeq (wSeq (wRegion (rmI rfl rfl rfl rfl rfl (rmI rfl rfl rfl rfl rfl ?_)))))
                 refine rlt rfl rfl rfl rfl rfl rfl ?_ ?_ <;> intro h18_2
                 ·refine rNil (qSeq (wT rfl (wSkip (qSeq (wSeq (wBlock (wSeq (wDraw [0, 1, 0, 7, 15, 31, 0, 64, 255] rfl (by decide +kernel) ?_))))))))
                  refine dfa (off := 4) (s := 1) (r := false) rfl rfl rfl (Nat.succ_ne_zero _) rfl rfl rfl ?_
                  (apply dlc (v := .sl _ _ _) rfl rfl; exact Q0; rfl; rfl; rfl; rfl; rfl; rfl)
                  refine dmI rfl rfl rfl rfl rfl ?_
                  (apply dixl rfl rfl rfl rfl; exact Q5; exact Q16; rfl; rfl; rfl; rfl)
                  refine dfai (off := 0) (s := 1) (r := false) rfl rfl rfl (Nat.succ_ne_zero _) rfl rfl rfl rfl (dlic (v := .int _ _) rfl rfl rfl rfl rfl rfl rfl rfl (dfa (off := 0) (s := 1) (r := false) rfl rfl rfl (Nat.succ_ne_zero _) rfl rfl rfl ?_))
                  (apply dlc (v := .int _ _) rfl rfl; exact Q0; rfl; rfl; rfl; rfl; rfl; rfl)
                  refine deq rfl rfl rfl rfl rfl rfl ?_ ?_ <;> intro h20_8
                  ·refine dNilR 9 [0, 1, 0, 0, 0, 0, 0, 1, 0] [] rfl rfl (by decide +kernel) trivial ?_
                   refine qSeq (wT rfl (wSeq (wRegion (raB rfl rfl rfl rfl rfl (rNil (qSeq (wRet (qBlockR (qSeqR (qLoopR (qBlockR (qBlockR ?_))))))))))))
                   refine qSeqR (qLoopR (qBlockR (qBlockR (qSeqR (qLoopR (qBlockR (qSeqR ?_)))))))
                   refine finF rfl fun hw => ?_
                   obtain ⟨w1, w2, w3, w4, w5, w6⟩ := hw
                   obtain ⟨⟨v1, v2, v3, v4, v5, v6, v7⟩, v8⟩ := w5 i0 (by omega)
                   obtain ⟨u1, u2, u3, u4⟩ := v7 k (by omega)
                   exact u4 q (by omega) h20_8
                  ·refine dNilR 9 [0, 1, 0, 0, 0, 0, 0, 1, 0] [] rfl rfl (by decide +kernel) trivial ?_
                   refine qSeq (wF rfl (wSkip (qBlock (qSeq (wRegion (rmI rfl rfl rfl rfl rfl (raddF rfl rfl rfl ?_ ?_ rfl rfl rfl ?_)))))))
                   ·exact Q5
                   ·exact Q5
                   refine raI rfl rfl rfl rfl rfl (rNil (qLoop ?_))
                   exact wlH (ih (q + 1) ⟨by omega, allS hI.2 h20_8⟩ (by omega)) (by (repeat first | exact LE.nil _ | refine LE.unk _ _ ?_ | refine LE.eq _ _ _ rfl ?_)) (by (repeat first | exact lessH0 | (refine lessHc ?_ ?_; exact Q34))) (Nat.le_refl _)
                 ·refine rNil (qSeq (wF rfl (wExit (qSeqX (qLoopX (qBlockX (qBlock (qSeq (wRegion (rmI rfl rfl rfl rfl rfl (raddF rfl rfl rfl ?_ ?_ rfl rfl rfl ?_)))))))))))
                  ·exact Q5
                  ·exact Q5
                  refine raI rfl rfl rfl rfl rfl (rNil (qLoop ?_))
                  exact wlH (ih1 (k + 1, m1 + 1) ⟨by dsimp only; omega, allS hK1.2.1 ⟨h15_2, by assumption, h15_7, fun j hj => hI.2 j (by omega)⟩, by dsimp only; omega⟩ (by dsimp only; omega)) (by (repeat first | exact LE.nil _ | refine LE.unk _ _ ?_ | refine LE.eq _ _ _ rfl ?_)) (by (repeat first | exact lessH0 | (refine lessHc ?_ ?_; exact Q34))) (Nat.le_refl _)
               ·refine rnot (c := false) rfl rfl rfl rfl rfl (rpk (e := true) rfl rfl rfl rfl rfl rfl (rmB rfl rfl rfl rfl rfl (rSkip rfl rfl rfl (rSkip rfl rfl rfl (rSkip rfl rfl rfl (rSkip rfl rfl rfl (rSkip rfl rfl rfl (rpk (e := true) rfl rfl rfl rfl rfl rfl (rNil (qSeq (wT rfl (wSeq ?_))))))))))))
                refine wRegion (raB rfl rfl rfl rfl rfl (rNil (qSeq (wRet (qSeqR (qBlockR (qSeqR (qLoopR (qBlockR (qBlockR (qSeqR (qLoopR ?_))))))))))))
                refine qBlockR (qSeqR ?_)
                refine finF rfl fun hw => ?_
                obtain ⟨w1, w2, w3, w4, w5, w6⟩ := hw
                obtain ⟨⟨v1, v2, v3, v4, v5, v6, v7⟩, v8⟩ := w5 i0 (by omega)
                obtain ⟨u1, u2, u3, u4⟩ := v7 k (by omega)
                first | omega | contradiction
              ·refine rnot (c := false) rfl rfl rfl rfl rfl (rmB rfl rfl rfl rfl rfl (rSkip rfl rfl rfl (rSkip rfl rfl rfl (rSkip rfl rfl rfl (rSkip rfl rfl rfl (rpk (e := true) rfl rfl rfl rfl rfl rfl (rmB rfl rfl rfl rfl rfl (rSkip rfl rfl rfl (rSkip rfl rfl rfl (rSkip rfl rfl rfl (rSkip rfl rfl rfl (rSkip rfl rfl rfl ?_))))))))))))
               refine rpk (e := true) rfl rfl rfl rfl rfl rfl (rNil (qSeq (wT rfl (wSeq (wRegion (raB rfl rfl rfl rfl rfl (rNil (qSeq (wRet (qSeqR (qBlockR (qSeqR ?_))))))))))))
               refine qLoopR (qBlockR (qBlockR (qSeqR (qLoopR (qBlockR (qSeqR ?_))))))
               refine finF rfl fun hw => ?_
               obtain ⟨w1, w2, w3, w4, w5, w6⟩ := hw
               obtain ⟨⟨v1, v2, v3, v4, v5, v6, v7⟩, v8⟩ := w5 i0 (by omega)
               obtain ⟨u1, u2, u3, u4⟩ := v7 k (by omega)
               first | omega | contradiction
             ·refine rNil (qSeq (wF rfl (wExit (qSeqX (qLoopX (qBlockX (qBlock (qSeq (wRegion (rmI rfl rfl rfl rfl rfl (raddF rfl rfl rfl ?_ ?_ rfl rfl rfl ?_)))))))))))
              ·exact Q5
              ·exact Q5
              refine raI rfl rfl rfl rfl rfl (rNil (qLoop ?_))
              refine wlH (ih0 (i0 + 1, m1) ⟨by dsimp only; omega, allS hK0.2.1 ⟨⟨⟨by have := h7_2.1; omega, h7_2.2⟩, by omega, by omega, by omega, by omega, fun he => by omega, fun j hj => hI.2.1 j (by omega)⟩, fun h0 => ?_⟩, by dsimp only; omega⟩ (by dsimp only; omega)) (by (repeat first | exact LE.nil _ | refine LE.unk _ _ ?_ | refine LE.eq _ _ _ rfl ?_)) (by (repeat first | exact lessH0 | (refine lessHc ?_ ?_; exact Q34))) (Nat.le_refl _)
              first | omega | (rw [pred_nat] at h7_17; unfold ltS; simpa using h7_17)
          ·refine dnot (c := false) rfl rfl rfl rfl rfl (dpk (e := true) rfl rfl rfl rfl rfl rfl (dmB rfl rfl rfl rfl rfl (dSkip rfl rfl rfl (dSkip rfl rfl rfl (dSkip rfl rfl rfl (dSkip rfl rfl rfl (dpk (e := true) rfl rfl rfl rfl rfl rfl (dNilR 47 [0, 0, 0, 0, 0, 0, 0, 0, 0, 1, 0, 0, 0, 0, 0, 1, 0, 0, 0, 0, 0, 0, 1, 0, 1, 0, 0, 0, 0, 0, 0, 0, 0, 0, 0, 0, 0, 0, 0, 0, 0, 0, 0, 0, 0, 1, 0] [] rfl rfl (by decide +kernel) trivial ?_))))))))
           refine qSeq (wT rfl (wSeq (wRegion (raB rfl rfl rfl rfl rfl (rNil (qSeq (wRet (qSeqR (qBlockR (qSeqR (qLoopR (qBlockR ?_))))))))))))
           refine qSeqR ?_
           refine finF rfl fun hw => ?_
           obtain ⟨w1, w2, w3, w4, w5, w6⟩ := hw
           obtain ⟨⟨v1, v2, v3, v4, v5, v6, v7⟩, v8⟩ := w5 i0 (by omega)
           first
           | omega
           | exact h7_2 ⟨by have := v1.1; omega, v1.2⟩
           | (have v9 := v8 (by omega); unfold ltS at v9; rw [pred_nat, v9] at h7_17; cases h7_17)
         ·refine dnot (c := false) rfl rfl rfl rfl rfl (dpk (e := true) rfl rfl rfl rfl rfl rfl (dmB rfl rfl rfl rfl rfl (dSkip rfl rfl rfl (dSkip rfl rfl rfl (dSkip rfl rfl rfl (dSkip rfl rfl rfl (dpk (e := true) rfl rfl rfl rfl rfl rfl (dmB rfl rfl rfl rfl rfl (dSkip rfl rfl rfl (dSkip rfl rfl rfl (dSkip rfl rfl rfl (dSkip rfl rfl rfl ?_))))))))))))
          refine dpk (e := true) rfl rfl rfl rfl rfl rfl (dNilR 47 [0, 0, 0, 0, 0, 0, 0, 0, 0, 0, 0, 0, 0, 0, 0, 1, 0, 0, 0, 0, 0, 0, 1, 0, 1, 0, 0, 0, 0, 0, 0, 0, 0, 0, 0, 0, 0, 0, 0, 0, 0, 0, 0, 0, 0, 1, 0] [] rfl rfl (by decide +kernel) trivial ?_)
          refine qSeq (wT rfl (wSeq (wRegion (raB rfl rfl rfl rfl rfl (rNil (qSeq (wRet (qSeqR (qBlockR (qSeqR (qLoopR (qBlockR ?_))))))))))))
          refine qSeqR ?_
          refine finF rfl fun hw => ?_
          obtain ⟨w1, w2, w3, w4, w5, w6⟩ := hw
          obtain ⟨⟨v1, v2, v3, v4, v5, v6, v7⟩, v8⟩ := w5 i0 (by omega)
          first
          | omega
          | exact h7_2 ⟨by have := v1.1; omega, v1.2⟩
          | (have v9 := v8 (by omega); unfold ltS at v9; rw [pred_nat, v9] at h7_17; cases h7_17)
        ·refine dnot (c := false) rfl rfl rfl rfl rfl (dpk (e := true) rfl rfl rfl rfl rfl rfl (dmB rfl rfl rfl rfl rfl (dSkip rfl rfl rfl (dSkip rfl rfl rfl (dSkip rfl rfl rfl (dSkip rfl rfl rfl (dpk (e := true) rfl rfl rfl rfl rfl rfl (dmB rfl rfl rfl rfl rfl (dSkip rfl rfl rfl (dSkip rfl rfl rfl (dSkip rfl rfl rfl (dSkip rfl rfl rfl ?_))))))))))))
         refine dpk (e := true) rfl rfl rfl rfl rfl rfl (dmB rfl rfl rfl rfl rfl (dSkip rfl rfl rfl (dSkip rfl rfl rfl (dSkip rfl rfl rfl (dSkip rfl rfl rfl (dpk (e := true) rfl rfl rfl rfl rfl rfl (dNilR 47 [0, 0, 0, 0, 0, 0, 0, 0, 0, 0, 0, 0, 0, 0, 0, 0, 0, 0, 0, 0, 0, 0, 1, 0, 1, 0, 0, 0, 0, 0, 0, 0, 0, 0, 0, 0, 0, 0, 0, 0, 0, 0, 0, 0, 0, 1, 0] [] rfl rfl (by decide +kernel) trivial ?_)))))))
         refine qSeq (wT rfl (wSeq (wRegion (raB rfl rfl rfl rfl rfl (rNil (qSeq (wRet (qSeqR (qBlockR (qSeqR (qLoopR (qBlockR ?_))))))))))))
         refine qSeqR ?_
         refine finF rfl fun hw => ?_
         obtain ⟨w1, w2, w3, w4, w5, w6⟩ := hw
         obtain ⟨⟨v1, v2, v3, v4, v5, v6, v7⟩, v8⟩ := w5 i0 (by omega)
         first
         | omega
         | exact h7_2 ⟨by have := v1.1; omega, v1.2⟩
         | (have v9 := v8 (by omega); unfold ltS at v9; rw [pred_nat, v9] at h7_17; cases h7_17)
      ·refine dnot (c := false) rfl rfl rfl rfl rfl (dmB rfl rfl rfl rfl rfl (dSkip rfl rfl rfl (dSkip rfl rfl rfl (dSkip rfl rfl rfl (dSkip rfl rfl rfl (dSkip rfl rfl rfl (dSkip rfl rfl rfl (dSkip rfl rfl rfl (dSkip rfl rfl rfl (dSkip rfl rfl rfl (dSkip rfl rfl rfl (dSkip rfl rfl rfl ?_))))))))))))
       refine dSkip rfl rfl rfl (dSkip rfl rfl rfl (dSkip rfl rfl rfl (dpk (e := true) rfl rfl rfl rfl rfl rfl (dmB rfl rfl rfl rfl rfl (dSkip rfl rfl rfl (dSkip rfl rfl rfl (dSkip rfl rfl rfl (dSkip rfl rfl rfl (dSkip rfl rfl rfl (dSkip rfl rfl rfl (dSkip rfl rfl rfl (dpk (e := true) rfl rfl rfl rfl rfl rfl ?_))))))))))))
       refine dmB rfl rfl rfl rfl rfl (dSkip rfl rfl rfl (dSkip rfl rfl rfl (dSkip rfl rfl rfl (dSkip rfl rfl rfl (dpk (e := true) rfl rfl rfl rfl rfl rfl (dmB rfl rfl rfl rfl rfl (dSkip rfl rfl rfl (dSkip rfl rfl rfl (dSkip rfl rfl rfl (dSkip rfl rfl rfl (dpk (e := true) rfl rfl rfl rfl rfl rfl (dmB rfl rfl rfl rfl rfl ?_))))))))))))
       refine dSkip rfl rfl rfl (dSkip rfl rfl rfl (dSkip rfl rfl rfl (dSkip rfl rfl rfl (dpk (e := true) rfl rfl rfl rfl rfl rfl (dNilR 47 [0, 0, 0, 0, 0, 0, 0, 0, 0, 0, 0, 0, 0, 0, 0, 0, 0, 0, 0, 0, 0, 0, 0, 0, 0, 0, 0, 0, 0, 0, 0, 0, 0, 0, 0, 0, 0, 0, 0, 0, 0, 0, 0, 0, 0, 1, 0] [] rfl rfl (by decide +kernel) trivial ?_)))))
       refine qSeq (wT rfl (wSeq (wRegion (raB rfl rfl rfl rfl rfl (rNil (qSeq (wRet (qSeqR (qBlockR (qSeqR (qLoopR (qBlockR ?_))))))))))))
       refine qSeqR ?_
       refine finF rfl fun hw => ?_
       obtain ⟨w1, w2, w3, w4, w5, w6⟩ := hw
       obtain ⟨⟨v1, v2, v3, v4, v5, v6, v7⟩, v8⟩ := w5 i0 (by omega)
       first
       | omega
       | exact h7_2 ⟨by have := v1.1; omega, v1.2⟩
       | (have v9 := v8 (by omega); unfold ltS at v9; rw [pred_nat, v9] at h7_17; cases h7_17)
     ·refine rNil (qSeq (wF rfl (wExit (qSeqX (qLoopX (qBlockX (qSeq (wSeq (wSeq (wRegion (raI rfl rfl rfl rfl rfl (rNil ?_))))))))))))
      refine qSeq (wBlock (wLoop ?_))
      refine loopGo (fun (a : Nat × Nat) => [.unk, .ptr 0 0 0, .unk, .unk, .unk, .unk, .unk, .unk, .int .i64 a.1]) (fun (a : Nat × Nat) => hp [(0, ⟨[[.int .i64 t.tm, .int .i64 t.nx, .sl false n1 (t.lk.map (Lk.T b)), .sl false n2 (t.sn.map Sn.T)]], 4, 35⟩)]) (fun (a : Nat × Nat) => a.2) (fun (a : Nat × Nat) => a.1 ≤ t.sn.length ∧ (∀ j, j < a.1 → snAt t j) ∧ 1 ≤ a.2) (fun (a : Nat × Nat) => t.sn.length - a.1) (0, m0) ?_ ?_ ?_ ?_ ?_
      ·exact ⟨Nat.zero_le _, all0, hK0.2.2⟩
      ·(repeat first | exact LE.nil _ | refine LE.unk _ _ ?_ | refine LE.eq _ _ _ rfl ?_)
      ·(repeat first | exact lessH0 | (refine lessHc ?_ ?_; exact Q34))
      ·exact Nat.le_refl _
      intro ⟨i, m3⟩ hI ih
      dsimp only at hI ⊢
      refine lStep (wSeq (wSeq (wRegion (rmI rfl rfl rfl rfl rfl (rfa (off := 3) (s := 1) (r := false) rfl rfl rfl (Nat.succ_ne_zero _) rfl rfl rfl ?_)))))
      (apply rlc (v := .sl _ _ _) rfl rfl; exact Q0; rfl; rfl; rfl; rfl; rfl; rfl)
      refine rll rfl rfl rfl rfl rfl rfl ?_
      refine rlt rfl rfl rfl rfl rfl rfl ?_ ?_ <;> intro h23_4
      ·refine rNil (qSeq (wT rfl (wSkip (qSeq (wSeq (wBlock (wSeq (wRegion (rfa (off := 3) (s := 1) (r := false) rfl rfl rfl (Nat.succ_ne_zero _) rfl rfl rfl ?_)))))))))
       (apply rlc (v := .sl _ _ _) rfl rfl; exact Q0; rfl; rfl; rfl; rfl; rfl; rfl)
       refine rmI rfl rfl rfl rfl rfl ?_
       (apply rixl rfl rfl rfl rfl; exact Q5; exact Q16; rfl; rfl; rfl; rfl)
       refine rlir (vs := [.int _ _, .int _ _, .int _ _, .int _ _, .int _ _, .int _ _]) rfl rfl rfl (Nat.le_of_ble_eq_true rfl) rfl rfl rfl rfl (ral rfl rfl rfl rfl rfl rfl ?_)
       (apply rst (u := .agg [.int _ _, .int _ _, .int _ _, .int _ _, .int _ _, .int _ _]) rfl rfl rfl; exact Q0; rfl; rfl; rfl; rfl; rfl; (exact Nat.le_of_ble_eq_true rfl); rfl; rfl; rfl)
       refine rNil (qSeq (wSeq (wDraw [0, 1, 3, 7, 15, 31, 63, 127, 255, 511, 1023, 2047, 4095, 8191, 16383, 32767, 65535, 131071, 262143, 524287, 1048575, 2097151, 1048575, 5242879, 16777215, 33554431, 67108863, 1048575, 135266303, 536870911, 1073741823, 2147483647] rfl (by decide +kernel) ?_)))
       refine dfa (off := 0) (s := 1) (r := false) rfl rfl rfl (Nat.succ_ne_zero _) rfl rfl rfl ?_
       (apply dlc (v := .int _ _) rfl rfl; exact Q0; rfl; rfl; rfl; rfl; rfl; rfl)
       refine dclP (p84 _ _ _) rfl rfl rfl rfl rfl rfl ?_ ?_ <;> intro h26_2
       ·refine dnot (c := true) rfl rfl rfl rfl rfl (dmB rfl rfl rfl rfl rfl (dfa (off := 1) (s := 1) (r := false) rfl rfl rfl (Nat.succ_ne_zero _) rfl rfl rfl ?_))
        (apply dlc (v := .int _ _) rfl rfl; exact Q0; rfl; rfl; rfl; rfl; rfl; rfl)
        refine dclP (p84 _ _ _) rfl rfl rfl rfl rfl rfl ?_ ?_ <;> intro h26_7
        ·refine dnot (c := true) rfl rfl rfl rfl rfl (dpk (e := false) rfl rfl rfl rfl rfl rfl (dmB rfl rfl rfl rfl rfl (dfa (off := 2) (s := 4) (r := true) rfl rfl rfl (Nat.succ_ne_zero _) rfl rfl rfl ?_)))
         (apply dlr (vs := [.int _ _, .int _ _, .int _ _, .int _ _]) rfl rfl; exact Q0; rfl; rfl; (exact Nat.le_of_ble_eq_true rfl); rfl; rfl; rfl; rfl)
         refine dclP (s82 (t.sn.getD i Sn0).an) rfl rfl rfl rfl rfl rfl ?_ ?_ <;> intro h26_13
         ·refine dnot (c := true) rfl rfl rfl rfl rfl (dpk (e := false) rfl rfl rfl rfl rfl rfl (dmB rfl rfl rfl rfl rfl (dmI rfl rfl rfl rfl rfl ?_)))
          refine dgt rfl rfl rfl rfl rfl rfl ?_ ?_ <;> intro h26_18
          ·refine dmB rfl rfl rfl rfl rfl (dfa (off := 3) (s := 1) (r := false) rfl rfl rfl (Nat.succ_ne_zero _) rfl rfl rfl ?_)
           (apply dlc (v := .sl _ _ _) rfl rfl; exact Q0; rfl; rfl; rfl; rfl; rfl; rfl)
           refine dmI rfl rfl rfl rfl rfl (dsubF rfl rfl rfl ?_ ?_ rfl rfl rfl ?_)
           ·exact Q5
           ·exact Q5
           (apply dixl rfl rfl rfl rfl; exact Q5; exact Q16; rfl; rfl; rfl; rfl)
           refine dfai (off := 0) (s := 1) (r := false) rfl rfl rfl (Nat.succ_ne_zero _) rfl rfl rfl rfl (dlic (v := .int _ _) rfl rfl rfl rfl rfl rfl rfl rfl (dfa (off := 0) (s := 1) (r := false) rfl rfl rfl (Nat.succ_ne_zero _) rfl rfl rfl ?_))
           (apply dlc (v := .int _ _) rfl rfl; exact Q0; rfl; rfl; rfl; rfl; rfl; rfl)
           refine dge rfl rfl rfl rfl rfl rfl ?_ ?_ <;> intro h26_29
           ·refine dpk (e := true) rfl rfl rfl rfl rfl rfl (dpk (e := true) rfl rfl rfl rfl rfl rfl (dNilR 32 [0, 0, 0, 1, 0, 0, 0, 0, 0, 0, 1, 0, 0, 0, 0, 0, 0, 0, 0, 1, 0, 0, 0, 0, 0, 1, 0, 0, 0, 0, 1, 0] [] rfl rfl (by decide +kernel) trivial ?_))
            refine qSeq (wT rfl (wSeq (wRegion (raB rfl rfl rfl rfl rfl (rNil (qSeq (wRet (qBlockR (qSeqR (qLoopR (qBlockR (qSeqR ?_))))))))))))
            refine finF rfl fun hw => ?_
            obtain ⟨w1, w2, w3, w4, w5, w6⟩ := hw
            obtain ⟨⟨v1, v2, v3⟩, v4⟩ := w6 i (by omega)
            first | exact h26_2 v1 | exact h26_7 v2 | exact h26_13 v3 | (have v5 := v4 (by omega); rw [pred_nat] at h26_29; exact Int.not_le.mpr v5 h26_29)
           ·refine dpk (e := false) rfl rfl rfl rfl rfl rfl (dpk (e := false) rfl rfl rfl rfl rfl rfl (dNilR 32 [0, 0, 0, 1, 0, 0, 0, 0, 0, 0, 1, 0, 0, 0, 0, 0, 0, 0, 0, 1, 0, 0, 0, 0, 0, 1, 0, 0, 0, 0, 1, 0] [] rfl rfl (by decide +kernel) trivial ?_))
            refine qSeq (wF rfl (wSkip (qBlock (qSeq (wRegion (rmI rfl rfl rfl rfl rfl (raddF rfl rfl rfl ?_ ?_ rfl rfl rfl ?_)))))))
            ·exact Q5
            ·exact Q5
            refine raI rfl rfl rfl rfl rfl (rNil (qLoop ?_))
            exact wlH (ih (i + 1, m3 + 1) ⟨by dsimp only; omega, allS hI.2.1 ⟨⟨h26_2, h26_7, h26_13⟩, fun h0 => by first | omega | (rw [pred_nat] at h26_29; exact Int.not_le.mp h26_29)⟩, by dsimp only; omega⟩ (by dsimp only; omega)) (by (repeat first | exact LE.nil _ | refine LE.unk _ _ ?_ | refine LE.eq _ _ _ rfl ?_)) (by (repeat first | exact lessH0 | (refine lessHc ?_ ?_; exact Q34))) (Nat.le_refl _)
          ·refine dmB rfl rfl rfl rfl rfl (dSkip rfl rfl rfl (dSkip rfl rfl rfl (dSkip rfl rfl rfl (dSkip rfl rfl rfl (dSkip rfl rfl rfl (dSkip rfl rfl rfl (dSkip rfl rfl rfl (dSkip rfl rfl rfl (dSkip rfl rfl rfl (dSkip rfl rfl rfl (dpk (e := false) rfl rfl rfl rfl rfl rfl (dpk (e := false) rfl rfl rfl rfl rfl rfl ?_))))))))))))
           refine dNilR 32 [0, 0, 0, 0, 0, 0, 0, 0, 0, 0, 0, 0, 0, 0, 0, 0, 0, 0, 0, 1, 0, 0, 0, 0, 0, 1, 0, 0, 0, 0, 1, 0] [] rfl rfl (by decide +kernel) trivial ?_
           refine qSeq (wF rfl (wSkip (qBlock (qSeq (wRegion (rmI rfl rfl rfl rfl rfl (raddF rfl rfl rfl ?_ ?_ rfl rfl rfl ?_)))))))
           ·exact Q5
           ·exact Q5
           refine raI rfl rfl rfl rfl rfl (rNil (qLoop ?_))
           exact wlH (ih (i + 1, m3 + 1) ⟨by dsimp only; omega, allS hI.2.1 ⟨⟨h26_2, h26_7, h26_13⟩, fun h0 => by first | omega | (rw [pred_nat] at h26_29; exact Int.not_le.mp h26_29)⟩, by dsimp only; omega⟩ (by dsimp only; omega)) (by (repeat first | exact LE.nil _ | refine LE.unk _ _ ?_ | refine LE.eq _ _ _ rfl ?_)) (by (repeat first | exact lessH0 | (refine lessHc ?_ ?_; exact Q34))) (Nat.le_refl _)
         ·refine dnot (c := false) rfl rfl rfl rfl rfl (dpk (e := true) rfl rfl rfl rfl rfl rfl (dmB rfl rfl rfl rfl rfl (dSkip rfl rfl rfl (dSkip rfl rfl rfl (dSkip rfl rfl rfl (dSkip rfl rfl rfl (dSkip rfl rfl rfl (dSkip rfl rfl rfl (dSkip rfl rfl rfl (dSkip rfl rfl rfl (dSkip rfl rfl rfl (dSkip rfl rfl rfl ?_))))))))))))
          refine dSkip rfl rfl rfl (dSkip rfl rfl rfl (dSkip rfl rfl rfl (dSkip rfl rfl rfl (dpk (e := true) rfl rfl rfl rfl rfl rfl (dNilR 32 [0, 0, 0, 0, 0, 0, 0, 0, 0, 0, 0, 0, 0, 0, 0, 0, 0, 0, 0, 1, 0, 0, 0, 0, 0, 1, 0, 0, 0, 0, 1, 0] [] rfl rfl (by decide +kernel) trivial ?_)))))
          refine qSeq (wT rfl (wSeq (wRegion (raB rfl rfl rfl rfl rfl (rNil (qSeq (wRet (qBlockR (qSeqR (qLoopR (qBlockR (qSeqR ?_))))))))))))
          refine finF rfl fun hw => ?_
          obtain ⟨w1, w2, w3, w4, w5, w6⟩ := hw
          obtain ⟨⟨v1, v2, v3⟩, v4⟩ := w6 i (by omega)
          first | exact h26_2 v1 | exact h26_7 v2 | exact h26_13 v3 | (have v5 := v4 (by omega); rw [pred_nat] at h26_29; exact Int.not_le.mpr v5 h26_29)
        ·refine dnot (c := false) rfl rfl rfl rfl rfl (dpk (e := true) rfl rfl rfl rfl rfl rfl (dmB rfl rfl rfl rfl rfl (dSkip rfl rfl rfl (dSkip rfl rfl rfl (dSkip rfl rfl rfl (dSkip rfl rfl rfl (dpk (e := true) rfl rfl rfl rfl rfl rfl (dmB rfl rfl rfl rfl rfl (dSkip rfl rfl rfl (dSkip rfl rfl rfl (dSkip rfl rfl rfl (dSkip rfl rfl rfl ?_))))))))))))
         refine dSkip rfl rfl rfl (dSkip rfl rfl rfl (dSkip rfl rfl rfl (dSkip rfl rfl rfl (dSkip rfl rfl rfl (dSkip rfl rfl rfl (dSkip rfl rfl rfl (dSkip rfl rfl rfl (dSkip rfl rfl rfl (dSkip rfl rfl rfl (dpk (e := true) rfl rfl rfl rfl rfl rfl (dNilR 32 [0, 0, 0, 0, 0, 0, 0, 0, 0, 0, 0, 0, 0, 0, 0, 0, 0, 0, 0, 0, 0, 0, 0, 0, 0, 1, 0, 0, 0, 0, 1, 0] [] rfl rfl (by decide +kernel) trivial ?_)))))))))))
         refine qSeq (wT rfl (wSeq (wRegion (raB rfl rfl rfl rfl rfl (rNil (qSeq (wRet (qBlockR (qSeqR (qLoopR (qBlockR (qSeqR ?_))))))))))))
         refine finF rfl fun hw => ?_
         obtain ⟨w1, w2, w3, w4, w5, w6⟩ := hw
         obtain ⟨⟨v1, v2, v3⟩, v4⟩ := w6 i (by omega)
         first | exact h26_2 v1 | exact h26_7 v2 | exact h26_13 v3 | (have v5 := v4 (by omega); rw [pred_nat] at h26_29; exact Int.not_le.mpr v5 h26_29)
       ·refine dnot (c := false) rfl rfl rfl rfl rfl (dmB rfl rfl rfl rfl rfl (dSkip rfl rfl rfl (dSkip rfl rfl rfl (dSkip rfl rfl rfl (dSkip rfl rfl rfl (dpk (e := true) rfl rfl rfl rfl rfl rfl (dmB rfl rfl rfl rfl rfl (dSkip rfl rfl rfl (dSkip rfl rfl rfl (dSkip rfl rfl rfl (dSkip rfl rfl rfl (dpk (e := true) rfl rfl rfl rfl rfl rfl ?_))))))))))))
        refine dmB rfl rfl rfl rfl rfl (dSkip rfl rfl rfl (dSkip rfl rfl rfl (dSkip rfl rfl rfl (dSkip rfl rfl rfl (dSkip rfl rfl rfl (dSkip rfl rfl rfl (dSkip rfl rfl rfl (dSkip rfl rfl rfl (dSkip rfl rfl rfl (dSkip rfl rfl rfl (dSkip rfl rfl rfl (dSkip rfl rfl rfl ?_))))))))))))
        refine dSkip rfl rfl rfl (dSkip rfl rfl rfl (dpk (e := true) rfl rfl rfl rfl rfl rfl (dNilR 32 [0, 0, 0, 0, 0, 0, 0, 0, 0, 0, 0, 0, 0, 0, 0, 0, 0, 0, 0, 0, 0, 0, 0, 0, 0, 0, 0, 0, 0, 0, 1, 0] [] rfl rfl (by decide +kernel) trivial ?_)))
        refine qSeq (wT rfl (wSeq (wRegion (raB rfl rfl rfl rfl rfl (rNil (qSeq (wRet (qBlockR (qSeqR (qLoopR (qBlockR (qSeqR ?_))))))))))))
        refine finF rfl fun hw => ?_
        obtain ⟨w1, w2, w3, w4, w5, w6⟩ := hw
        obtain ⟨⟨v1, v2, v3⟩, v4⟩ := w6 i (by omega)
        first | exact h26_2 v1 | exact h26_7 v2 | exact h26_13 v3 | (have v5 := v4 (by omega); rw [pred_nat] at h26_29; exact Int.not_le.mpr v5 h26_29)
      ·refine rNil (qSeq (wF rfl (wExit (qSeqX (qLoopX (qBlockX (qSeq (wSeq (wRegion (raB rfl rfl rfl rfl rfl (rNil (qSeq ?_))))))))))))
       refine wRet ?_
       exact finT rfl ⟨h1_2, h1_7, by omega, by omega, fun j hj => hK0.2.1 j (by omega), fun j hj => hI.2.1 j (by omega)⟩
  ·refine rnot (c := false) rfl rfl rfl rfl rfl (rpk (e := true) rfl rfl rfl rfl rfl rfl (rmB rfl rfl rfl rfl rfl (rSkip rfl rfl rfl (rSkip rfl rfl rfl (rSkip rfl rfl rfl (rSkip rfl rfl rfl (rpk (e := true) rfl rfl rfl rfl rfl rfl (rmB rfl rfl rfl rfl rfl (rSkip rfl rfl rfl (rSkip rfl rfl rfl (rSkip rfl rfl rfl (rSkip rfl rfl rfl ?_))))))))))))
   refine rpk (e := true) rfl rfl rfl rfl rfl rfl (rNil (qSeq (wT rfl (wSeq (wRegion (raB rfl rfl rfl rfl rfl (rNil (qSeq (wRet (qSeqR ?_))))))))))
   refine finF rfl fun hw => ?_; obtain ⟨w1, w2, w3, w4, w5, w6⟩ := hw; first | contradiction | omega
 ·refine rnot (c := false) rfl rfl rfl rfl rfl (rmB rfl rfl rfl rfl rfl (rSkip rfl rfl rfl (rSkip rfl rfl rfl (rSkip rfl rfl rfl (rSkip rfl rfl rfl (rpk (e := true) rfl rfl rfl rfl rfl rfl (rmB rfl rfl rfl rfl rfl (rSkip rfl rfl rfl (rSkip rfl rfl rfl (rSkip rfl rfl rfl (rSkip rfl rfl rfl (rpk (e := true) rfl rfl rfl rfl rfl rfl ?_))))))))))))
  refine rmB rfl rfl rfl rfl rfl (rSkip rfl rfl rfl (rSkip rfl rfl rfl (rSkip rfl rfl rfl (rSkip rfl rfl rfl (rpk (e := true) rfl rfl rfl rfl rfl rfl (rNil (qSeq (wT rfl (wSeq (wRegion (raB rfl rfl rfl rfl rfl (rNil ?_))))))))))))
  refine qSeq (wRet (qSeqR ?_))
  refine finF rfl fun hw => ?_; obtain ⟨w1, w2, w3, w4, w5, w6⟩ := hw; first | contradiction | omega
open Go.V
set_option linter.unusedVariables false
set_option linter.unusedSimpArgs false
set_option maxRecDepth 20000
set_option maxHeartbeats 4000000
def strT (s : ByteArray) : List T := [.str s]
def cb (a b : ByteArray) : Int := Lib.compareBytes a.data.toList b.data.toList
theorem hcmp (a b : ByteArray) (w : World) : (callFunc 144 #[.string a, .string b]).run En.P w = .ok (.value (.int .i64 (cb a b))) w := by
 show (callFunc 144 #[.string a, .string b]).run Try.prog w = _
 rw [run_callFunc_extern Try.func144 (by kernel_rfl) (by kernel_rfl) (by kernel_rfl) (e := Extern.BytealgCompare.compare) (by kernel_rfl), Lib.run_compareString]; rfl
theorem s123 (a b : ByteArray) : Pure En 123 [.one (.str a), .one (.str b)] [.one (.int .i64 (cb a b))] := by
 refine Pure.of_wp Try.func123 rfl (Nat.le_of_ble_eq_true rfl) ?_
 refine wSeq (wRegion (raI rfl rfl rfl rfl rfl (rNil (qSeq (wSeq (wRegion (rmS rfl rfl rfl rfl rfl (rmS rfl rfl rfl rfl rfl (rx2 (hcmp a b) rfl rfl rfl rfl rfl rfl rfl (raI rfl rfl rfl rfl rfl (rNil (qSeq ?_))))))))))))
 refine wRet ?_
 exact fin rfl rfl
theorem s89 (a b : ByteArray) : Pure En 89 [.one (.str a), .one (.str b)] [.one (.int .i64 (cb a b))] := by
 refine Pure.of_wp Try.func89 rfl (Nat.le_of_ble_eq_true rfl) ?_
 refine wSeq (wRegion (raI rfl rfl rfl rfl rfl (rNil (qSeq (wSeq (wRegion (rmS rfl rfl rfl rfl rfl (rmS rfl rfl rfl rfl rfl (rcl (s123 a b) rfl rfl rfl rfl rfl rfl (raI rfl rfl rfl rfl rfl (rNil (qSeq ?_))))))))))))
 refine wRet ?_
 exact fin rfl rfl
def Lk.V (l : Lk) (W : V) : List V := [.str l.nm, .int .i64 l.tk, .int .i64 l.hd, .int .i64 l.ex, W]
theorem o88 (l : Lk) (W : V) (hW : W.cell = true) (s : ByteArray) {h : Heap} {n : Nat} : V.Open En 88 [.agg (l.V W), .str s] h n (.int .i64 (cb l.nm s)) [] (n + 1) := by
 refine V.Open.of_wp Try.func88 rfl (Nat.le_of_ble_eq_true rfl) ?_
 refine wSeq (wRegion ?_)
 (refine rbx (u := .agg (l.V W)) rfl rfl rfl ?_ rfl rfl rfl ?_; (show (W.cell && true) = true; rw [hW]; rfl))
 refine raI rfl rfl rfl rfl rfl (rNil (qSeq (wSeq (wRegion (rfa (off := 0) (s := 1) (r := false) rfl rfl rfl (Nat.succ_ne_zero _) rfl rfl rfl ?_)))))
 (apply rlc (v := .str _) rfl rfl; exact Q0; rfl; rfl; rfl; rfl; rfl; rfl)
 refine rmS rfl rfl rfl rfl rfl (rcl (s89 _ _) rfl rfl rfl rfl rfl rfl (raI rfl rfl rfl rfl rfl (rNil (qSeq (wRet ?_)))))
 exact finO rfl rfl (leWr (fun j hj => absurd hj List.not_mem_nil) (fun j hj hn => by first | rfl | (simp (disch := omega) only [↓app0, ↓appC, ↓updS, ↓updN]))) (Nat.le_refl _)
theorem cmpL : ∀ a b : List UInt8, (Lib.compareBytes a b < 0 ↔ a < b) ∧ (Lib.compareBytes a b = 0 ↔ a = b)
 | [], [] => by simp [Lib.compareBytes]
 | [], _ :: _ => by simp [Lib.compareBytes]
 | _ :: _, [] => by simp [Lib.compareBytes]
 | a :: x, b :: y => by
  have ih := cmpL x y
  unfold Lib.compareBytes
  rw [List.cons_lt_cons_iff, List.cons.injEq]
  by_cases h1 : a < b
  ·rw [if_pos h1]
   refine ⟨⟨fun _ => .inl h1, fun _ => by decide⟩, fun e => absurd e (by decide), fun e => ?_⟩
   rw [e.1] at h1; exact absurd h1 (UInt8.lt_irrefl _)
  ·rw [if_neg h1]
   by_cases h2 : b < a
   ·rw [if_pos h2]
    refine ⟨⟨fun e => absurd e (by decide), fun e => ?_⟩, fun e => absurd e (by decide), fun e => ?_⟩
    ·rcases e with e | e
     ·exact absurd e h1
     ·rw [e.1] at h2; exact absurd h2 (UInt8.lt_irrefl _)
    ·rw [e.1] at h2; exact absurd h2 (UInt8.lt_irrefl _)
   ·rw [if_neg h2]
    have e : a = b := UInt8.le_antisymm (UInt8.not_lt.1 h2) (UInt8.not_lt.1 h1)
    subst e
    simp [h1, ih.1, ih.2]
theorem bytesLess_eq : ∀ (x y : List UInt8), Op.bytesLess x y = decide (x < y)
 | [], [] => by simp [Op.bytesLess]
 | _ :: _, [] => by simp [Op.bytesLess]
 | [], _ :: _ => by simp [Op.bytesLess]
 | a :: x, b :: y => by
  rw [Op.bytesLess, bytesLess_eq x y]
  simp only [List.cons_lt_cons_iff]
  by_cases h1 : a < b <;> by_cases h2 : a = b <;> by_cases h3 : x < y <;> simp [h1, h2, h3]
theorem ltS_iff (a b : ByteArray) : ltS a b ↔ a.data.toList < b.data.toList := by
 unfold ltS
 rw [Lib.toList_data, Lib.toList_data, bytesLess_eq, decide_eq_true_iff]
instance (a b : ByteArray) : Decidable (ltS a b) := by unfold ltS; infer_instance
theorem cb_lt {a b : ByteArray} : cb a b < 0 ↔ ltS a b := by rw [ltS_iff]; exact (cmpL _ _).1
theorem cb_eq {a b : ByteArray} : cb a b = 0 ↔ a = b := by
 unfold cb
 rw [(cmpL _ _).2]
 constructor
 ·intro e; cases a; cases b; simp at e ⊢; cases ‹Array UInt8›; cases ‹Array UInt8›; simpa using e
 ·intro e; rw [e]
theorem ltS_irr (a : ByteArray) : ¬ ltS a a := by rw [ltS_iff]; exact List.lt_irrefl _
theorem ltS_trans {a b c : ByteArray} : ltS a b → ltS b c → ltS a c := by
 rw [ltS_iff, ltS_iff, ltS_iff]; exact fun h1 h2 => List.lt_trans h1 h2
def lnm (L : List Lk) (i : Nat) : ByteArray := (L.getD i Lk0).nm
def Srt (L : List Lk) : Prop := ∀ i, 0 < i → i < L.length → ltS (lnm L (i - 1)) (lnm L i)
theorem Srt.lt {L : List Lk} (hs : Srt L) {i : Nat} : ∀ {j : Nat}, i < j → j < L.length → ltS (lnm L i) (lnm L j)
 | 0, h, _ => absurd h (Nat.not_lt_zero _)
 | j + 1, h, h1 => by
  have e := hs (j + 1) (Nat.succ_pos _) h1
  rw [Nat.add_sub_cancel] at e
  by_cases e2 : i = j
  ·subst e2; exact e
  ·exact ltS_trans (hs.lt (j := j) (by omega) (by omega)) e
theorem Tb.OK.srt {t : Tb} (h : t.OK) : Srt t.lk := fun i h0 h1 => (h.2.2.2.2.1 i h1).2 h0
def pos (s : ByteArray) : List Lk → Nat
 | [] => 0
 | l :: r => if ltS l.nm s then pos s r + 1 else 0
theorem pos_eq {s : ByteArray} : ∀ {L : List Lk} {p : Nat}, p ≤ L.length → (∀ j, j < p → ltS (lnm L j) s) → (p < L.length → ¬ ltS (lnm L p) s) → pos s L = p
 | [], p, h, _, _ => by simp at h; subst h; rfl
 | l :: r, 0, _, _, h => by unfold pos; rw [if_neg (by simpa [lnm] using h (by simp))]
 | l :: r, p + 1, h, h1, h2 => by
  unfold pos
  rw [if_pos (by simpa [lnm] using h1 0 (Nat.succ_pos _)), pos_eq (L := r) (p := p) (by simpa using h) (fun j hj => by simpa [lnm] using h1 (j + 1) (by omega)) (fun h3 => by simpa [lnm] using h2 (by simpa using h3))]
def hit (s : ByteArray) (L : List Lk) : Prop := pos s L < L.length ∧ lnm L (pos s L) = s
instance (s : ByteArray) (L : List Lk) : Decidable (hit s L) := by unfold hit; infer_instance
theorem hit_of {s : ByteArray} {L : List Lk} (hs : Srt L) {i : Nat} (h : i < L.length) (e : lnm L i = s) : pos s L = i ∧ hit s L := by
 have : pos s L = i := pos_eq (Nat.le_of_lt h) (fun j hj => e ▸ hs.lt hj h) (fun _ => by rw [e]; exact ltS_irr s)
 exact ⟨this, by rw [this]; exact h, by rw [this]; exact e⟩
theorem hit_no {s : ByteArray} {L : List Lk} (h : ∀ j, j < L.length → ¬ lnm L j = s) : ¬ hit s L := fun e => h _ e.1 e.2
def fix (s : ByteArray) (L : List Lk) : Int := if hit s L then pos s L else -1
theorem s43 (t : Tb) (b n1 n2 : Bool) (s : ByteArray) (hs : Srt t.lk) (hL : t.lk.length ≤ 1048576) : Pure En 43 [.agg (t.T b n1 n2), .one (.str s)] [.one (.int .i64 (fix s t.lk))] := by
 have hl : (t.lk.map (Lk.T b)).length = t.lk.length := List.length_map ..
 refine Pure.of_wp Try.func43 rfl (Nat.le_of_ble_eq_true rfl) ?_
 refine wSeq (wRegion (rbx (u := .agg [.int _ _, .int _ _, _, _]) rfl rfl rfl rfl rfl rfl rfl (raI rfl rfl rfl rfl rfl (rNil (qSeq (wSeq (wSeq (wRegion (raI rfl rfl rfl rfl rfl (rNil (qSeq (wBlock ?_))))))))))))
 refine wLoop ?_
 refine loopGo (fun (i : Nat) => [.unk, .str s, .ptr 0 0 0, .unk, .unk, .int .i64 i]) (fun (i : Nat) => hp [(0, ⟨[[.int .i64 t.tm, .int .i64 t.nx, .sl false n1 (t.lk.map (Lk.T b)), .sl false n2 (t.sn.map Sn.T)]], 4, 35⟩)]) (fun (i : Nat) => 1) (fun (i : Nat) => i ≤ t.lk.length ∧ ∀ j, j < i → ¬ lnm t.lk j = s) (fun (i : Nat) => t.lk.length - i) 0 ?_ ?_ ?_ ?_ ?_
 ·exact ⟨Nat.zero_le _, all0⟩
 ·(repeat first | exact LE.nil _ | refine LE.unk _ _ ?_ | refine LE.eq _ _ _ rfl ?_)
 ·(repeat first | exact lessH0 | (refine lessHc ?_ ?_; exact Q34))
 ·exact Nat.le_refl _
 intro i hI ih
 refine lStep (wSeq (wSeq (wRegion (rmI rfl rfl rfl rfl rfl (rfa (off := 2) (s := 1) (r := false) rfl rfl rfl (Nat.succ_ne_zero _) rfl rfl rfl ?_)))))
 (apply rlc (v := .sl _ _ _) rfl rfl; exact Q0; rfl; rfl; rfl; rfl; rfl; rfl)
 refine rll rfl rfl rfl rfl rfl rfl ?_
 refine rlt rfl rfl rfl rfl rfl rfl ?_ ?_ <;> intro h2_4
 ·refine rNil (qSeq (wT rfl (wSkip (qSeq (wSeq (wBlock (wSeq (wRegion (rfa (off := 2) (s := 1) (r := false) rfl rfl rfl (Nat.succ_ne_zero _) rfl rfl rfl ?_)))))))))
  (apply rlc (v := .sl _ _ _) rfl rfl; exact Q0; rfl; rfl; rfl; rfl; rfl; rfl)
  refine rmI rfl rfl rfl rfl rfl ?_
  (apply rixl rfl rfl rfl rfl; exact Q5; (first | rfl | assumption | (exact getMap (Lk.T b) Lk0 (k := i) (by omega))); rfl; rfl; rfl; rfl)
  refine rfai (off := 0) (s := 1) (r := false) rfl rfl rfl (Nat.succ_ne_zero _) rfl rfl rfl rfl (rlic (v := .str _) rfl rfl rfl rfl rfl rfl rfl rfl (rmS rfl rfl rfl rfl rfl ?_))
  refine rseq rfl rfl rfl rfl rfl rfl ?_ ?_ <;> intro h4_7
  ·refine rNil (qSeq (wT rfl (wSeq (wRegion (rmI rfl rfl rfl rfl rfl (raI rfl rfl rfl rfl rfl (rNil (qSeq (wRet (qBlockR (qSeqR (qLoopR ?_))))))))))))
   refine qBlockR (qSeqR ?_)
   first | (rw [fix, if_pos (hit_of hs (i := i) (by omega) h4_7).2, (hit_of hs (i := i) (by omega) h4_7).1]; exact fin rfl rfl)
  ·refine rNil (qSeq (wF rfl (wSkip (qBlock (qSeq (wRegion (rmI rfl rfl rfl rfl rfl (raddF rfl rfl rfl ?_ ?_ rfl rfl rfl ?_))))))))
   ·exact Q5
   ·exact Q5
   refine raI rfl rfl rfl rfl rfl (rNil (qLoop ?_))
   exact wlH (ih (i + 1) ⟨by omega, allS hI.2 h4_7⟩ (by omega)) (by (repeat first | exact LE.nil _ | refine LE.unk _ _ ?_ | refine LE.eq _ _ _ rfl ?_)) (by (repeat first | exact lessH0 | (refine lessHc ?_ ?_; exact Q34))) (Nat.le_refl _)
 ·refine rNil (qSeq (wF rfl (wExit (qSeqX (qLoopX (qBlockX (qSeq (wSeq (wRegion (raI rfl rfl rfl rfl rfl (rNil (qSeq ?_))))))))))))
  refine wRet ?_
  rw [fix, if_neg (hit_no fun j hj => hI.2 j (by omega))]; exact fin rfl rfl
end Go.Proofs.Ytknnniaoboaghaa
