import Derived.Test.YtcafccndgpopkaaDoorT8
namespace Go.Proofs.YtcafccndgpopkaaDoor
open Go.V
set_option linter.unusedVariables false
set_option linter.unusedSimpArgs false
set_option maxRecDepth 20000
set_option maxHeartbeats 4000000

/-! Right clients, on both sides. -/
def Cl.OK (n : Int) (c : Cl) : Prop := nodes n ∧ (0 ≤ c.id ∧ c.id ≤ 255) ∧ (0 ≤ c.st ∧ c.st ≤ 65535) ∧ (∀ a ∈ c.acc, a.OK) ∧
  ((c.bz = false ∧ (c.acc.length : Int) = c.st ∧ c.rq = Rq0 ∧ c.rps.length = 0) ∨
   (c.bz = true ∧ (c.acc.length : Int) = c.st - 1 ∧ (c.rq.OK ∧ c.rq.cl = c.id ∧ c.rq.st = c.st) ∧ c.rps.length ≤ 40 ∧ (∀ j, j < c.rps.length → (c.rps.getD j Rp0).OK n ∧ (c.rps.getD j Rp0).cl = c.id ∧ (c.rps.getD j Rp0).st = c.st) ∧ (dec n c.id c.st c.rps).isSome = false))
noncomputable instance (n : Int) (c : Cl) : Decidable (c.OK n) := Classical.propDecidable _
theorem eqRq0 (r : Rq) : eqV En.P 10000 34 (.agg [.int .i64 r.cl, .int .i64 r.st, .int .i64 r.kd, .int .i64 r.le, .str r.nm]) (.agg [.int .i64 0, .int .i64 0, .int .i64 0, .int .i64 0, .str ⟨#[]⟩]) = some (r.cl == 0 && (r.st == 0 && (r.kd == 0 && (r.le == 0 && (r.nm.toList == (⟨#[]⟩ : ByteArray).toList && true))))) := by kernel_rfl
theorem rq0_iff (r : Rq) : (r.cl == 0 && (r.st == 0 && (r.kd == 0 && (r.le == 0 && (r.nm.toList == (⟨#[]⟩ : ByteArray).toList && true))))) = true ↔ r = Rq0 := by
  obtain ⟨a, b, c, d, e⟩ := r
  simp only [Bool.and_eq_true, beq_iff_eq, and_true, Rq0, Rq.mk.injEq, bytes_eq, decide_eq_true_eq]
theorem rq0_false {r : Rq} (h : (r.cl == 0 && (r.st == 0 && (r.kd == 0 && (r.le == 0 && (r.nm.toList == (⟨#[]⟩ : ByteArray).toList && true))))) = false) : r ≠ Rq0 := fun e => by rw [(rq0_iff r).2 e] at h; cases h
theorem all_getD {L : List An} {p : An → Prop} (h : ∀ j, j < L.length → p (L.getD j An0)) : ∀ a ∈ L, p a := fun a ha => by
  obtain ⟨j, hj, rfl⟩ := List.getElem_of_mem ha
  have := h j hj
  rwa [List.getD_eq_getElem?_getD, List.getElem?_eq_getElem hj] at this
theorem getD_mem {L : List An} {j : Nat} (hj : j < L.length) : L.getD j An0 ∈ L := by
  rw [List.getD_eq_getElem?_getD, List.getElem?_eq_getElem hj]; exact List.getElem_mem _
theorem q30 (n : Int) (c : Cl) (n1 n2 : Bool) (hL : c.acc.length ≤ 1048576) : Pure En 30 [.one (.int .i64 n), .agg (c.T n1 n2)] [.one (.bool (decide (c.OK n)))] := by
  have hl : (c.rps.map Rp.T).length = c.rps.length := List.length_map ..
  have hl2 : (c.acc.map An.T).length = c.acc.length := List.length_map ..
  refine Pure.of_wp Tryd.func30 rfl (Nat.le_of_ble_eq_true rfl) ?_
  refine wSeq ?_
  refine wRegion ?_
  refine rbx (u := .agg [.int _ _, .int _ _, .bool _, .int _ _, .int _ _, .int _ _, .int _ _, .str _, _, _]) rfl rfl rfl rfl rfl rfl rfl ?_
  refine raB rfl rfl rfl rfl rfl ?_
  refine rNil ?_
  refine qSeq ?_
  refine wSeq ?_
  refine wSeq ?_
  refine wRegion ?_
  refine rmI rfl rfl rfl rfl rfl ?_
  refine rclP (p22 n) rfl rfl rfl rfl rfl rfl ?_ ?_ <;> intro h1_1
  · refine rnot (c := true) rfl rfl rfl rfl rfl ?_
    refine rmB rfl rfl rfl rfl rfl ?_
    refine rfa (off := 0) (s := 1) (r := false) rfl rfl rfl (Nat.succ_ne_zero _) rfl rfl rfl ?_
    (apply rlc (v := .int _ _) rfl rfl; (first | ((simp (disch := omega) only [↓app0, ↓appC, ↓updS, ↓updN, ↓hpS, ↓hpN]) <;> first | rfl | assumption) | assumption | rfl); rfl; rfl; rfl; rfl; rfl; rfl)
    refine rclP (p12 _ _ _) rfl rfl rfl rfl rfl rfl ?_ ?_ <;> intro h1_6
    · refine rnot (c := true) rfl rfl rfl rfl rfl ?_
      refine rpk (e := false) rfl rfl rfl rfl rfl rfl ?_
      refine rmB rfl rfl rfl rfl rfl ?_
      refine rfa (off := 1) (s := 1) (r := false) rfl rfl rfl (Nat.succ_ne_zero _) rfl rfl rfl ?_
      (apply rlc (v := .int _ _) rfl rfl; (first | ((simp (disch := omega) only [↓app0, ↓appC, ↓updS, ↓updN, ↓hpS, ↓hpN]) <;> first | rfl | assumption) | assumption | rfl); rfl; rfl; rfl; rfl; rfl; rfl)
      refine rclP (p12 _ _ _) rfl rfl rfl rfl rfl rfl ?_ ?_ <;> intro h1_12
      · refine rnot (c := true) rfl rfl rfl rfl rfl ?_
        refine rpk (e := false) rfl rfl rfl rfl rfl rfl ?_
        refine rmB rfl rfl rfl rfl rfl ?_
        refine rfa (off := 9) (s := 1) (r := false) rfl rfl rfl (Nat.succ_ne_zero _) rfl rfl rfl ?_
        (apply rlc (v := .sl _ _ _) rfl rfl; (first | ((simp (disch := omega) only [↓app0, ↓appC, ↓updS, ↓updN, ↓hpS, ↓hpN]) <;> first | rfl | assumption) | assumption | rfl); rfl; rfl; rfl; rfl; rfl; rfl)
        refine ropB (o23 false n2 c.acc (by omega)) rfl rfl rfl rfl rfl rfl ?_ ?_
        all_goals intro h1_18
        · refine rpk (e := true) rfl rfl rfl rfl rfl rfl ?_
          refine rNil ?_
          refine qSeq ?_
          refine wT rfl ?_
          refine wSeq ?_
          refine wRegion ?_
          refine raB rfl rfl rfl rfl rfl ?_
          refine rNil ?_
          refine qSeq ?_
          refine wRet ?_
          refine qSeqR ?_
          refine finF rfl fun hw => ?_; obtain ⟨w1, w2, w3, w4, w5⟩ := hw; first | contradiction | omega | (obtain ⟨a, h1, h2⟩ := of_decide_eq_true h1_18; exact absurd (w4 a h1) h2)
        · refine rpk (e := false) rfl rfl rfl rfl rfl rfl ?_
          refine rNil ?_
          refine qSeq ?_
          refine wF rfl ?_
          refine wSkip ?_
          refine qSeq ?_
          refine wSeq ?_
          refine wSeq ?_
          refine wRegion ?_
          refine rfa (off := 2) (s := 1) (r := false) rfl rfl rfl (Nat.succ_ne_zero _) rfl rfl rfl ?_
          ((apply rlcB rfl rfl; (first | ((simp (disch := omega) only [↓app0, ↓appC, ↓updS, ↓updN, ↓hpS, ↓hpN]) <;> first | rfl | assumption) | assumption | rfl); rfl; rfl; rfl; rfl; rfl; rfl)) <;> intro h3_1
          · refine rnot (c := true) rfl rfl rfl rfl rfl ?_
            refine rNil ?_
            refine qSeq ?_
            refine wF rfl ?_
            refine wSkip ?_
            refine qSeq ?_
            refine wSeq ?_
            refine wSeq ?_
            refine wRegion ?_
            refine rfa (off := 9) (s := 1) (r := false) rfl rfl rfl (Nat.succ_ne_zero _) rfl rfl rfl ?_
            (apply rlc (v := .sl _ _ _) rfl rfl; (first | ((simp (disch := omega) only [↓app0, ↓appC, ↓updS, ↓updN, ↓hpS, ↓hpN]) <;> first | rfl | assumption) | assumption | rfl); rfl; rfl; rfl; rfl; rfl; rfl)
            refine rll rfl rfl rfl rfl rfl rfl ?_
            refine rfa (off := 1) (s := 1) (r := false) rfl rfl rfl (Nat.succ_ne_zero _) rfl rfl rfl ?_
            (apply rlc (v := .int _ _) rfl rfl; (first | ((simp (disch := omega) only [↓app0, ↓appC, ↓updS, ↓updN, ↓hpS, ↓hpN]) <;> first | rfl | assumption) | assumption | rfl); rfl; rfl; rfl; rfl; rfl; rfl)
            refine rsubF rfl rfl rfl ?_ ?_ rfl rfl rfl ?_
            · (first | omega | assumption | (focus (simp; omega)))
            · (first | omega | assumption | (focus (simp; omega)))
            refine rne rfl rfl rfl rfl rfl rfl ?_ ?_ <;> intro h5_6
            · refine rmB rfl rfl rfl rfl rfl ?_
              refine rSkip rfl rfl rfl ?_
              refine rSkip rfl rfl rfl ?_
              refine rSkip rfl rfl rfl ?_
              refine rSkip rfl rfl rfl ?_
              refine rSkip rfl rfl rfl ?_
              refine rSkip rfl rfl rfl ?_
              refine rSkip rfl rfl rfl ?_
              refine rSkip rfl rfl rfl ?_
              refine rpk (e := true) rfl rfl rfl rfl rfl rfl ?_
              refine rmB rfl rfl rfl rfl rfl ?_
              refine rSkip rfl rfl rfl ?_
              refine rSkip rfl rfl rfl ?_
              refine rSkip rfl rfl rfl ?_
              refine rSkip rfl rfl rfl ?_
              refine rpk (e := true) rfl rfl rfl rfl rfl rfl ?_
              refine rNil ?_
              refine qSeq ?_
              refine wT rfl ?_
              refine wSeq ?_
              refine wRegion ?_
              refine raB rfl rfl rfl rfl rfl ?_
              refine rNil ?_
              refine qSeq ?_
              refine wRet ?_
              refine qSeqR ?_
              refine finF rfl fun hw => ?_
              obtain ⟨w1, w2, w3, w4, w5⟩ := hw
              rcases w5 with ⟨v1, v2, v3, v4⟩ | ⟨v1, v2, v3, v4, v5, v6⟩
              · rw [v1] at h3_1; cases h3_1
              · first | contradiction | omega
            · refine rmB rfl rfl rfl rfl rfl ?_
              refine rfa (off := 3) (s := 5) (r := true) rfl rfl rfl (Nat.succ_ne_zero _) rfl rfl rfl ?_
              (apply rlr (vs := [.int _ _, .int _ _, .int _ _, .int _ _, .str _]) rfl rfl; (first | ((simp (disch := omega) only [↓app0, ↓appC, ↓updS, ↓updN, ↓hpS, ↓hpN]) <;> first | rfl | assumption) | assumption | rfl); rfl; rfl; (exact Nat.le_of_ble_eq_true rfl); rfl; rfl; rfl; rfl)
              refine rfa (off := 0) (s := 1) (r := false) rfl rfl rfl (Nat.succ_ne_zero _) rfl rfl rfl ?_
              (apply rlc (v := .int _ _) rfl rfl; (first | ((simp (disch := omega) only [↓app0, ↓appC, ↓updS, ↓updN, ↓hpS, ↓hpN]) <;> first | rfl | assumption) | assumption | rfl); rfl; rfl; rfl; rfl; rfl; rfl)
              refine rfa (off := 1) (s := 1) (r := false) rfl rfl rfl (Nat.succ_ne_zero _) rfl rfl rfl ?_
              (apply rlc (v := .int _ _) rfl rfl; (first | ((simp (disch := omega) only [↓app0, ↓appC, ↓updS, ↓updN, ↓hpS, ↓hpN]) <;> first | rfl | assumption) | assumption | rfl); rfl; rfl; rfl; rfl; rfl; rfl)
              refine rclP (p26 c.rq _ _) rfl rfl rfl rfl rfl rfl ?_ ?_ <;> intro h5_14
              · refine rnot (c := true) rfl rfl rfl rfl rfl ?_
                refine rpk (e := false) rfl rfl rfl rfl rfl rfl ?_
                refine rmB rfl rfl rfl rfl rfl ?_
                refine rfa (off := 8) (s := 1) (r := false) rfl rfl rfl (Nat.succ_ne_zero _) rfl rfl rfl ?_
                (apply rlc (v := .sl _ _ _) rfl rfl; (first | ((simp (disch := omega) only [↓app0, ↓appC, ↓updS, ↓updN, ↓hpS, ↓hpN]) <;> first | rfl | assumption) | assumption | rfl); rfl; rfl; rfl; rfl; rfl; rfl)
                refine rll rfl rfl rfl rfl rfl rfl ?_
                refine rgt rfl rfl rfl rfl rfl rfl ?_ ?_ <;> intro h5_21
                · refine rpk (e := true) rfl rfl rfl rfl rfl rfl ?_
                  refine rNil ?_
                  refine qSeq ?_
                  refine wT rfl ?_
                  refine wSeq ?_
                  refine wRegion ?_
                  refine raB rfl rfl rfl rfl rfl ?_
                  refine rNil ?_
                  refine qSeq ?_
                  refine wRet ?_
                  refine qSeqR ?_
                  refine finF rfl fun hw => ?_
                  obtain ⟨w1, w2, w3, w4, w5⟩ := hw
                  rcases w5 with ⟨v1, v2, v3, v4⟩ | ⟨v1, v2, v3, v4, v5, v6⟩
                  · rw [v1] at h3_1; cases h3_1
                  · first | contradiction | omega
                · refine rpk (e := false) rfl rfl rfl rfl rfl rfl ?_
                  refine rNil ?_
                  refine qSeq ?_
                  refine wF rfl ?_
                  refine wSkip ?_
                  refine qSeq ?_
                  refine wSeq ?_
                  refine wSeq ?_
                  refine wRegion ?_
                  refine rfa (off := 8) (s := 1) (r := false) rfl rfl rfl (Nat.succ_ne_zero _) rfl rfl rfl ?_
                  (apply rlc (v := .sl _ _ _) rfl rfl; (first | ((simp (disch := omega) only [↓app0, ↓appC, ↓updS, ↓updN, ↓hpS, ↓hpN]) <;> first | rfl | assumption) | assumption | rfl); rfl; rfl; rfl; rfl; rfl; rfl)
                  refine rll rfl rfl rfl rfl rfl rfl ?_
                  refine rmI rfl rfl rfl rfl rfl ?_
                  refine rNil ?_
                  refine qSeq ?_
                  refine wBlock ?_
                  refine wLoop ?_
                  refine loopGo (fun (a : Nat × Nat) => [.int .i64 n, .unk, .unk, .ptr 0 0 0, .unk, .unk, .unk, .unk, .unk, .unk, .unk, .unk, .unk, .unk, .unk, .unk, .unk, .unk, .unk, .unk, .unk, .unk, .unk, .unk, .unk, .unk, .unk, .unk, .unk, .unk, .unk, .unk, .unk, .unk, .unk, .unk, .unk, .unk, .unk, .unk, .unk, .unk, .unk, .unk, .unk, .unk, .unk, .unk, .unk, .unk, .unk, .unk, .unk, .unk, .unk, .unk, .unk, .unk, .unk, .unk, .unk, .unk, .unk, .unk, .unk, .unk, .unk, .unk, .unk, .unk, .unk, .unk, .unk, .unk, .sl false n1 (c.rps.map Rp.T), .int .i64 (c.rps.map Rp.T).length, .int .i64 a.1]) (fun (a : Nat × Nat) => hp [(0, ⟨[(c.T n1 n2).map (T.toV false)], 10, 38⟩)]) (fun (a : Nat × Nat) => a.2) (fun (a : Nat × Nat) => a.1 ≤ c.rps.length ∧ 1 ≤ a.2 ∧ ∀ j, j < a.1 → (c.rps.getD j Rp0).OK n ∧ (c.rps.getD j Rp0).cl = c.id ∧ (c.rps.getD j Rp0).st = c.st) (fun (a : Nat × Nat) => c.rps.length - a.1) (0, 1) ?_ ?_ ?_ ?_ ?_
                  · exact ⟨Nat.zero_le _, Nat.le_refl _, all0⟩
                  · (repeat first | exact LE.nil _ | refine LE.unk _ _ ?_ | refine LE.eq _ _ _ rfl ?_)
                  · (repeat first | exact lessH0 | (refine lessHc ?_ ?_; (first | (first | ((simp (disch := omega) only [↓app0, ↓appC, ↓updS, ↓updN, ↓hpS, ↓hpN]) <;> first | rfl | assumption) | assumption | rfl) | fail)))
                  · exact Nat.le_refl _
                  intro ⟨i, m⟩ hI ih
                  dsimp only at hI ⊢
                  refine lStep ?_
                  refine wSeq ?_
                  refine wRegion ?_
                  refine rlt rfl rfl rfl rfl rfl rfl ?_ ?_ <;> intro h8_0
                  · refine rNil ?_
                    refine qSeq ?_
                    refine wSeq ?_
                    refine wT rfl ?_
                    refine wSkip ?_
                    refine qSeq ?_
                    refine wSeq ?_
                    refine wBlock ?_
                    refine wSeq ?_
                    refine wRegion ?_
                    (apply rixl rfl rfl rfl rfl; (first | omega | assumption | (focus (simp; omega))); (first | rfl | assumption | (exact mapGet Rp.T Rp0 (by omega))); rfl; rfl; rfl; rfl)
                    refine rlir (vs := [.int _ _, .int _ _, .int _ _, .int _ _, .int _ _, .int _ _, .int _ _, .str _]) rfl rfl rfl (Nat.le_of_ble_eq_true rfl) rfl rfl rfl rfl ?_
                    refine ral rfl rfl rfl rfl rfl rfl ?_
                    (apply rst (u := .agg [.int _ _, .int _ _, .int _ _, .int _ _, .int _ _, .int _ _, .int _ _, .str _]) rfl rfl rfl; (first | ((simp (disch := omega) only [↓app0, ↓appC, ↓updS, ↓updN, ↓hpS, ↓hpN]) <;> first | rfl | assumption) | assumption | rfl); rfl; rfl; rfl; rfl; rfl; (exact Nat.le_of_ble_eq_true rfl); rfl; rfl; rfl)
                    refine rNil ?_
                    refine qSeq ?_
                    refine wSeq ?_
                    refine wRegion ?_
                    refine rmI rfl rfl rfl rfl rfl ?_
                    (apply rlr (vs := [.int _ _, .int _ _, .int _ _, .int _ _, .int _ _, .int _ _, .int _ _, .str _]) rfl rfl; (first | ((simp (disch := omega) only [↓app0, ↓appC, ↓updS, ↓updN, ↓hpS, ↓hpN]) <;> first | rfl | assumption) | assumption | rfl); rfl; rfl; (exact Nat.le_of_ble_eq_true rfl); rfl; rfl; rfl; rfl)
                    refine rclP (p27 n (c.rps.getD i Rp0)) rfl rfl rfl rfl rfl rfl ?_ ?_ <;> intro h10_2
                    · refine rnot (c := true) rfl rfl rfl rfl rfl ?_
                      refine rmB rfl rfl rfl rfl rfl ?_
                      refine rfa (off := 1) (s := 1) (r := false) rfl rfl rfl (Nat.succ_ne_zero _) rfl rfl rfl ?_
                      (apply rlc (v := .int _ _) rfl rfl; (first | ((simp (disch := omega) only [↓app0, ↓appC, ↓updS, ↓updN, ↓hpS, ↓hpN]) <;> first | rfl | assumption) | assumption | rfl); rfl; rfl; rfl; rfl; rfl; rfl)
                      refine rfa (off := 0) (s := 1) (r := false) rfl rfl rfl (Nat.succ_ne_zero _) rfl rfl rfl ?_
                      (apply rlc (v := .int _ _) rfl rfl; (first | ((simp (disch := omega) only [↓app0, ↓appC, ↓updS, ↓updN, ↓hpS, ↓hpN]) <;> first | rfl | assumption) | assumption | rfl); rfl; rfl; rfl; rfl; rfl; rfl)
                      refine rne rfl rfl rfl rfl rfl rfl ?_ ?_ <;> intro h10_9
                      · refine rpk (e := true) rfl rfl rfl rfl rfl rfl ?_
                        refine rmB rfl rfl rfl rfl rfl ?_
                        refine rSkip rfl rfl rfl ?_
                        refine rSkip rfl rfl rfl ?_
                        refine rSkip rfl rfl rfl ?_
                        refine rSkip rfl rfl rfl ?_
                        refine rSkip rfl rfl rfl ?_
                        refine rpk (e := true) rfl rfl rfl rfl rfl rfl ?_
                        refine rNil ?_
                        refine qSeq ?_
                        refine wT rfl ?_
                        refine wSeq ?_
                        refine wRegion ?_
                        refine raB rfl rfl rfl rfl rfl ?_
                        refine rNil ?_
                        refine qSeq ?_
                        refine wRet ?_
                        refine qBlockR ?_
                        refine qSeqR ?_
                        refine qLoopR ?_
                        refine qBlockR ?_
                        refine qSeqR ?_
                        refine finF rfl fun hw => ?_
                        obtain ⟨w1, w2, w3, w4, w5⟩ := hw
                        rcases w5 with ⟨v1, v2, v3, v4⟩ | ⟨v1, v2, v3, v4, v5, v6⟩
                        · rw [v1] at h3_1; cases h3_1
                        · obtain ⟨q1, q2, q3⟩ := v5 i (by omega)
                          first | contradiction | omega
                      · refine rpk (e := false) rfl rfl rfl rfl rfl rfl ?_
                        refine rmB rfl rfl rfl rfl rfl ?_
                        refine rfa (off := 2) (s := 1) (r := false) rfl rfl rfl (Nat.succ_ne_zero _) rfl rfl rfl ?_
                        (apply rlc (v := .int _ _) rfl rfl; (first | ((simp (disch := omega) only [↓app0, ↓appC, ↓updS, ↓updN, ↓hpS, ↓hpN]) <;> first | rfl | assumption) | assumption | rfl); rfl; rfl; rfl; rfl; rfl; rfl)
                        refine rfa (off := 1) (s := 1) (r := false) rfl rfl rfl (Nat.succ_ne_zero _) rfl rfl rfl ?_
                        (apply rlc (v := .int _ _) rfl rfl; (first | ((simp (disch := omega) only [↓app0, ↓appC, ↓updS, ↓updN, ↓hpS, ↓hpN]) <;> first | rfl | assumption) | assumption | rfl); rfl; rfl; rfl; rfl; rfl; rfl)
                        refine rne rfl rfl rfl rfl rfl rfl ?_ ?_ <;> intro h10_16
                        · refine rpk (e := true) rfl rfl rfl rfl rfl rfl ?_
                          refine rNil ?_
                          refine qSeq ?_
                          refine wT rfl ?_
                          refine wSeq ?_
                          refine wRegion ?_
                          refine raB rfl rfl rfl rfl rfl ?_
                          refine rNil ?_
                          refine qSeq ?_
                          refine wRet ?_
                          refine qBlockR ?_
                          refine qSeqR ?_
                          refine qLoopR ?_
                          refine qBlockR ?_
                          refine qSeqR ?_
                          refine finF rfl fun hw => ?_
                          obtain ⟨w1, w2, w3, w4, w5⟩ := hw
                          rcases w5 with ⟨v1, v2, v3, v4⟩ | ⟨v1, v2, v3, v4, v5, v6⟩
                          · rw [v1] at h3_1; cases h3_1
                          · obtain ⟨q1, q2, q3⟩ := v5 i (by omega)
                            first | contradiction | omega
                        · refine rpk (e := false) rfl rfl rfl rfl rfl rfl ?_
                          refine rNil ?_
                          refine qSeq ?_
                          refine wF rfl ?_
                          refine wSkip ?_
                          refine qBlock ?_
                          refine qSeq ?_
                          refine wRegion ?_
                          refine raddF rfl rfl rfl ?_ ?_ rfl rfl rfl ?_
                          · (first | omega | assumption | (focus (simp; omega)))
                          · (first | omega | assumption | (focus (simp; omega)))
                          refine rmI rfl rfl rfl rfl rfl ?_
                          refine rNil ?_
                          refine qLoop ?_
                          exact wlH (ih (i + 1, m + 1) ⟨by dsimp only; omega, by dsimp only; omega, allS hI.2.2 ⟨h10_2, Classical.not_not.1 h10_9, Classical.not_not.1 h10_16⟩⟩ (by dsimp only; omega)) (by (repeat first | exact LE.nil _ | refine LE.unk _ _ ?_ | refine LE.eq _ _ _ rfl ?_)) (by (repeat first | exact lessH0 | (refine lessHc ?_ ?_; (first | (first | ((simp (disch := omega) only [↓app0, ↓appC, ↓updS, ↓updN, ↓hpS, ↓hpN]) <;> first | rfl | assumption) | assumption | rfl) | fail)))) (Nat.le_refl _)
                    · refine rnot (c := false) rfl rfl rfl rfl rfl ?_
                      refine rmB rfl rfl rfl rfl rfl ?_
                      refine rSkip rfl rfl rfl ?_
                      refine rSkip rfl rfl rfl ?_
                      refine rSkip rfl rfl rfl ?_
                      refine rSkip rfl rfl rfl ?_
                      refine rSkip rfl rfl rfl ?_
                      refine rpk (e := true) rfl rfl rfl rfl rfl rfl ?_
                      refine rmB rfl rfl rfl rfl rfl ?_
                      refine rSkip rfl rfl rfl ?_
                      refine rSkip rfl rfl rfl ?_
                      refine rSkip rfl rfl rfl ?_
                      refine rSkip rfl rfl rfl ?_
                      refine rSkip rfl rfl rfl ?_
                      refine rpk (e := true) rfl rfl rfl rfl rfl rfl ?_
                      refine rNil ?_
                      refine qSeq ?_
                      refine wT rfl ?_
                      refine wSeq ?_
                      refine wRegion ?_
                      refine raB rfl rfl rfl rfl rfl ?_
                      refine rNil ?_
                      refine qSeq ?_
                      refine wRet ?_
                      refine qBlockR ?_
                      refine qSeqR ?_
                      refine qLoopR ?_
                      refine qBlockR ?_
                      refine qSeqR ?_
                      refine finF rfl fun hw => ?_
                      obtain ⟨w1, w2, w3, w4, w5⟩ := hw
                      rcases w5 with ⟨v1, v2, v3, v4⟩ | ⟨v1, v2, v3, v4, v5, v6⟩
                      · rw [v1] at h3_1; cases h3_1
                      · obtain ⟨q1, q2, q3⟩ := v5 i (by omega)
                        first | contradiction | omega
                  · refine rNil ?_
                    refine qSeq ?_
                    refine wSeq ?_
                    refine wF rfl ?_
                    refine wExit ?_
                    refine qSeqX ?_
                    refine qLoopX ?_
                    refine qBlockX ?_
                    refine qSeq ?_
                    refine wSeq ?_
                    refine wRegion ?_
                    refine rmI rfl rfl rfl rfl rfl ?_
                    refine rfa (off := 0) (s := 1) (r := false) rfl rfl rfl (Nat.succ_ne_zero _) rfl rfl rfl ?_
                    (apply rlc (v := .int _ _) rfl rfl; (first | ((simp (disch := omega) only [↓app0, ↓appC, ↓updS, ↓updN, ↓hpS, ↓hpN]) <;> first | rfl | assumption) | assumption | rfl); rfl; rfl; rfl; rfl; rfl; rfl)
                    refine rfa (off := 1) (s := 1) (r := false) rfl rfl rfl (Nat.succ_ne_zero _) rfl rfl rfl ?_
                    (apply rlc (v := .int _ _) rfl rfl; (first | ((simp (disch := omega) only [↓app0, ↓appC, ↓updS, ↓updN, ↓hpS, ↓hpN]) <;> first | rfl | assumption) | assumption | rfl); rfl; rfl; rfl; rfl; rfl; rfl)
                    refine rfa (off := 8) (s := 1) (r := false) rfl rfl rfl (Nat.succ_ne_zero _) rfl rfl rfl ?_
                    (apply rlc (v := .sl _ _ _) rfl rfl; (first | ((simp (disch := omega) only [↓app0, ↓appC, ↓updS, ↓updN, ↓hpS, ↓hpN]) <;> first | rfl | assumption) | assumption | rfl); rfl; rfl; rfl; rfl; rfl; rfl)
                    refine rcl (p28 n c.id c.st n1 c.rps (by omega)) rfl rfl rfl rfl rfl rfl ?_
                    refine rmT rfl rfl rfl rfl rfl ?_
                    refine rex rfl rfl rfl rfl rfl rfl ?_
                    refine rexB rfl rfl rfl rfl rfl rfl ?_ ?_ <;> intro h13_10
                    · refine ral rfl rfl rfl rfl rfl rfl ?_
                      (apply rst (u := .agg [.int _ _, .int _ _, .int _ _, .int _ _]) rfl rfl rfl; (first | ((simp (disch := omega) only [↓app0, ↓appC, ↓updS, ↓updN, ↓hpS, ↓hpN]) <;> first | rfl | assumption) | assumption | rfl); rfl; rfl; rfl; rfl; rfl; (exact Nat.le_of_ble_eq_true rfl); rfl; rfl; rfl)
                      refine raB rfl rfl rfl rfl rfl ?_
                      refine rNil ?_
                      refine qSeq ?_
                      refine wSeq ?_
                      refine wRegion ?_
                      refine rmB rfl rfl rfl rfl rfl ?_
                      refine rnot (c := true) rfl rfl rfl rfl rfl ?_
                      refine raB rfl rfl rfl rfl rfl ?_
                      refine rNil ?_
                      refine qSeq ?_
                      refine wRet ?_
                      first
                        | exact finT rfl ⟨h1_1, by omega, by omega, (fun a ha => Classical.byContradiction fun h => of_decide_eq_false h1_18 ⟨a, ha, h⟩), .inr ⟨h3_1, by omega, h5_14, by omega, fun j hj => hI.2.2 j (by omega), h13_10⟩⟩
                        | (refine finF rfl fun hw => ?_
                           obtain ⟨w1, w2, w3, w4, w5⟩ := hw
                           rcases w5 with ⟨v1, v2, v3, v4⟩ | ⟨v1, v2, v3, v4, v5, v6⟩
                           · rw [v1] at h3_1; cases h3_1
                           · rw [v6] at h13_10; cases h13_10)
                    · refine ral rfl rfl rfl rfl rfl rfl ?_
                      (apply rst (u := .agg [.int _ _, .int _ _, .int _ _, .int _ _]) rfl rfl rfl; (first | ((simp (disch := omega) only [↓app0, ↓appC, ↓updS, ↓updN, ↓hpS, ↓hpN]) <;> first | rfl | assumption) | assumption | rfl); rfl; rfl; rfl; rfl; rfl; (exact Nat.le_of_ble_eq_true rfl); rfl; rfl; rfl)
                      refine raB rfl rfl rfl rfl rfl ?_
                      refine rNil ?_
                      refine qSeq ?_
                      refine wSeq ?_
                      refine wRegion ?_
                      refine rmB rfl rfl rfl rfl rfl ?_
                      refine rnot (c := false) rfl rfl rfl rfl rfl ?_
                      refine raB rfl rfl rfl rfl rfl ?_
                      refine rNil ?_
                      refine qSeq ?_
                      refine wRet ?_
                      first
                        | exact finT rfl ⟨h1_1, by omega, by omega, (fun a ha => Classical.byContradiction fun h => of_decide_eq_false h1_18 ⟨a, ha, h⟩), .inr ⟨h3_1, by omega, h5_14, by omega, fun j hj => hI.2.2 j (by omega), h13_10⟩⟩
                        | (refine finF rfl fun hw => ?_
                           obtain ⟨w1, w2, w3, w4, w5⟩ := hw
                           rcases w5 with ⟨v1, v2, v3, v4⟩ | ⟨v1, v2, v3, v4, v5, v6⟩
                           · rw [v1] at h3_1; cases h3_1
                           · rw [v6] at h13_10; cases h13_10)
              · refine rnot (c := false) rfl rfl rfl rfl rfl ?_
                refine rpk (e := true) rfl rfl rfl rfl rfl rfl ?_
                refine rmB rfl rfl rfl rfl rfl ?_
                refine rSkip rfl rfl rfl ?_
                refine rSkip rfl rfl rfl ?_
                refine rSkip rfl rfl rfl ?_
                refine rSkip rfl rfl rfl ?_
                refine rpk (e := true) rfl rfl rfl rfl rfl rfl ?_
                refine rNil ?_
                refine qSeq ?_
                refine wT rfl ?_
                refine wSeq ?_
                refine wRegion ?_
                refine raB rfl rfl rfl rfl rfl ?_
                refine rNil ?_
                refine qSeq ?_
                refine wRet ?_
                refine qSeqR ?_
                refine finF rfl fun hw => ?_
                obtain ⟨w1, w2, w3, w4, w5⟩ := hw
                rcases w5 with ⟨v1, v2, v3, v4⟩ | ⟨v1, v2, v3, v4, v5, v6⟩
                · rw [v1] at h3_1; cases h3_1
                · first | contradiction | omega
          · refine rnot (c := false) rfl rfl rfl rfl rfl ?_
            refine rNil ?_
            refine qSeq ?_
            refine wT rfl ?_
            refine wSeq ?_
            refine wRegion ?_
            refine rfa (off := 9) (s := 1) (r := false) rfl rfl rfl (Nat.succ_ne_zero _) rfl rfl rfl ?_
            (apply rlc (v := .sl _ _ _) rfl rfl; (first | ((simp (disch := omega) only [↓app0, ↓appC, ↓updS, ↓updN, ↓hpS, ↓hpN]) <;> first | rfl | assumption) | assumption | rfl); rfl; rfl; rfl; rfl; rfl; rfl)
            refine rll rfl rfl rfl rfl rfl rfl ?_
            refine rfa (off := 1) (s := 1) (r := false) rfl rfl rfl (Nat.succ_ne_zero _) rfl rfl rfl ?_
            (apply rlc (v := .int _ _) rfl rfl; (first | ((simp (disch := omega) only [↓app0, ↓appC, ↓updS, ↓updN, ↓hpS, ↓hpN]) <;> first | rfl | assumption) | assumption | rfl); rfl; rfl; rfl; rfl; rfl; rfl)
            refine req rfl rfl rfl rfl rfl rfl ?_ ?_ <;> intro h4_5
            · refine rmB rfl rfl rfl rfl rfl ?_
              refine rfa (off := 3) (s := 5) (r := true) rfl rfl rfl (Nat.succ_ne_zero _) rfl rfl rfl ?_
              (apply rlr (vs := [.int _ _, .int _ _, .int _ _, .int _ _, .str _]) rfl rfl; (first | ((simp (disch := omega) only [↓app0, ↓appC, ↓updS, ↓updN, ↓hpS, ↓hpN]) <;> first | rfl | assumption) | assumption | rfl); rfl; rfl; (exact Nat.le_of_ble_eq_true rfl); rfl; rfl; rfl; rfl)
              refine rbd (cs := [.int _ _, .int _ _, .int _ _, .int _ _, .str _]) rfl rfl rfl rfl rfl ?_
              refine rSeql rfl rfl rfl (by kernel_rfl) (eqRq0 c.rq) rfl rfl rfl ?_ ?_ <;> intro h4_10
              · refine rpk (e := true) rfl rfl rfl rfl rfl rfl ?_
                refine rmB rfl rfl rfl rfl rfl ?_
                refine rfa (off := 8) (s := 1) (r := false) rfl rfl rfl (Nat.succ_ne_zero _) rfl rfl rfl ?_
                (apply rlc (v := .sl _ _ _) rfl rfl; (first | ((simp (disch := omega) only [↓app0, ↓appC, ↓updS, ↓updN, ↓hpS, ↓hpN]) <;> first | rfl | assumption) | assumption | rfl); rfl; rfl; rfl; rfl; rfl; rfl)
                refine rll rfl rfl rfl rfl rfl rfl ?_
                refine req rfl rfl rfl rfl rfl rfl ?_ ?_ <;> intro h4_16
                · refine rpk (e := true) rfl rfl rfl rfl rfl rfl ?_
                  refine raB rfl rfl rfl rfl rfl ?_
                  refine rNil ?_
                  refine qSeq ?_
                  refine wRet ?_
                  refine qSeqR ?_
                  first
                    | exact finT rfl ⟨h1_1, by omega, by omega, (fun a ha => Classical.byContradiction fun h => of_decide_eq_false h1_18 ⟨a, ha, h⟩), .inl ⟨h3_1, by omega, (rq0_iff c.rq).1 h4_10, by omega⟩⟩
                    | (refine finF rfl fun hw => ?_
                       obtain ⟨w1, w2, w3, w4, w5⟩ := hw
                       rcases w5 with ⟨v1, v2, v3, v4⟩ | ⟨v1, v2, v3, v4, v5, v6⟩
                       · first | omega | exact rq0_false h4_10 v3
                       · rw [v1] at h3_1; cases h3_1)
                · refine rpk (e := false) rfl rfl rfl rfl rfl rfl ?_
                  refine raB rfl rfl rfl rfl rfl ?_
                  refine rNil ?_
                  refine qSeq ?_
                  refine wRet ?_
                  refine qSeqR ?_
                  first
                    | exact finT rfl ⟨h1_1, by omega, by omega, (fun a ha => Classical.byContradiction fun h => of_decide_eq_false h1_18 ⟨a, ha, h⟩), .inl ⟨h3_1, by omega, (rq0_iff c.rq).1 h4_10, by omega⟩⟩
                    | (refine finF rfl fun hw => ?_
                       obtain ⟨w1, w2, w3, w4, w5⟩ := hw
                       rcases w5 with ⟨v1, v2, v3, v4⟩ | ⟨v1, v2, v3, v4, v5, v6⟩
                       · first | omega | exact rq0_false h4_10 v3
                       · rw [v1] at h3_1; cases h3_1)
              · refine rpk (e := false) rfl rfl rfl rfl rfl rfl ?_
                refine rmB rfl rfl rfl rfl rfl ?_
                refine rSkip rfl rfl rfl ?_
                refine rSkip rfl rfl rfl ?_
                refine rSkip rfl rfl rfl ?_
                refine rSkip rfl rfl rfl ?_
                refine rpk (e := false) rfl rfl rfl rfl rfl rfl ?_
                refine raB rfl rfl rfl rfl rfl ?_
                refine rNil ?_
                refine qSeq ?_
                refine wRet ?_
                refine qSeqR ?_
                first
                  | exact finT rfl ⟨h1_1, by omega, by omega, (fun a ha => Classical.byContradiction fun h => of_decide_eq_false h1_18 ⟨a, ha, h⟩), .inl ⟨h3_1, by omega, (rq0_iff c.rq).1 h4_10, by omega⟩⟩
                  | (refine finF rfl fun hw => ?_
                     obtain ⟨w1, w2, w3, w4, w5⟩ := hw
                     rcases w5 with ⟨v1, v2, v3, v4⟩ | ⟨v1, v2, v3, v4, v5, v6⟩
                     · first | omega | exact rq0_false h4_10 v3
                     · rw [v1] at h3_1; cases h3_1)
            · refine rmB rfl rfl rfl rfl rfl ?_
              refine rSkip rfl rfl rfl ?_
              refine rSkip rfl rfl rfl ?_
              refine rSkip rfl rfl rfl ?_
              refine rSkip rfl rfl rfl ?_
              refine rpk (e := false) rfl rfl rfl rfl rfl rfl ?_
              refine rmB rfl rfl rfl rfl rfl ?_
              refine rSkip rfl rfl rfl ?_
              refine rSkip rfl rfl rfl ?_
              refine rSkip rfl rfl rfl ?_
              refine rSkip rfl rfl rfl ?_
              refine rpk (e := false) rfl rfl rfl rfl rfl rfl ?_
              refine raB rfl rfl rfl rfl rfl ?_
              refine rNil ?_
              refine qSeq ?_
              refine wRet ?_
              refine qSeqR ?_
              first
                | exact finT rfl ⟨h1_1, by omega, by omega, (fun a ha => Classical.byContradiction fun h => of_decide_eq_false h1_18 ⟨a, ha, h⟩), .inl ⟨h3_1, by omega, (rq0_iff c.rq).1 h4_10, by omega⟩⟩
                | (refine finF rfl fun hw => ?_
                   obtain ⟨w1, w2, w3, w4, w5⟩ := hw
                   rcases w5 with ⟨v1, v2, v3, v4⟩ | ⟨v1, v2, v3, v4, v5, v6⟩
                   · first | omega | exact rq0_false h4_10 v3
                   · rw [v1] at h3_1; cases h3_1)
      · refine rnot (c := false) rfl rfl rfl rfl rfl ?_
        refine rpk (e := true) rfl rfl rfl rfl rfl rfl ?_
        refine rmB rfl rfl rfl rfl rfl ?_
        refine rSkip rfl rfl rfl ?_
        refine rSkip rfl rfl rfl ?_
        refine rSkip rfl rfl rfl ?_
        refine rpk (e := true) rfl rfl rfl rfl rfl rfl ?_
        refine rNil ?_
        refine qSeq ?_
        refine wT rfl ?_
        refine wSeq ?_
        refine wRegion ?_
        refine raB rfl rfl rfl rfl rfl ?_
        refine rNil ?_
        refine qSeq ?_
        refine wRet ?_
        refine qSeqR ?_
        refine finF rfl fun hw => ?_; obtain ⟨w1, w2, w3, w4, w5⟩ := hw; first | contradiction | omega | (obtain ⟨a, h1, h2⟩ := of_decide_eq_true h1_18; exact absurd (w4 a h1) h2)
    · refine rnot (c := false) rfl rfl rfl rfl rfl ?_
      refine rpk (e := true) rfl rfl rfl rfl rfl rfl ?_
      refine rmB rfl rfl rfl rfl rfl ?_
      refine rSkip rfl rfl rfl ?_
      refine rSkip rfl rfl rfl ?_
      refine rSkip rfl rfl rfl ?_
      refine rSkip rfl rfl rfl ?_
      refine rpk (e := true) rfl rfl rfl rfl rfl rfl ?_
      refine rmB rfl rfl rfl rfl rfl ?_
      refine rSkip rfl rfl rfl ?_
      refine rSkip rfl rfl rfl ?_
      refine rSkip rfl rfl rfl ?_
      refine rpk (e := true) rfl rfl rfl rfl rfl rfl ?_
      refine rNil ?_
      refine qSeq ?_
      refine wT rfl ?_
      refine wSeq ?_
      refine wRegion ?_
      refine raB rfl rfl rfl rfl rfl ?_
      refine rNil ?_
      refine qSeq ?_
      refine wRet ?_
      refine qSeqR ?_
      refine finF rfl fun hw => ?_; obtain ⟨w1, w2, w3, w4, w5⟩ := hw; first | contradiction | omega | (obtain ⟨a, h1, h2⟩ := of_decide_eq_true h1_18; exact absurd (w4 a h1) h2)
  · refine rnot (c := false) rfl rfl rfl rfl rfl ?_
    refine rmB rfl rfl rfl rfl rfl ?_
    refine rSkip rfl rfl rfl ?_
    refine rSkip rfl rfl rfl ?_
    refine rSkip rfl rfl rfl ?_
    refine rSkip rfl rfl rfl ?_
    refine rpk (e := true) rfl rfl rfl rfl rfl rfl ?_
    refine rmB rfl rfl rfl rfl rfl ?_
    refine rSkip rfl rfl rfl ?_
    refine rSkip rfl rfl rfl ?_
    refine rSkip rfl rfl rfl ?_
    refine rSkip rfl rfl rfl ?_
    refine rpk (e := true) rfl rfl rfl rfl rfl rfl ?_
    refine rmB rfl rfl rfl rfl rfl ?_
    refine rSkip rfl rfl rfl ?_
    refine rSkip rfl rfl rfl ?_
    refine rSkip rfl rfl rfl ?_
    refine rpk (e := true) rfl rfl rfl rfl rfl rfl ?_
    refine rNil ?_
    refine qSeq ?_
    refine wT rfl ?_
    refine wSeq ?_
    refine wRegion ?_
    refine raB rfl rfl rfl rfl rfl ?_
    refine rNil ?_
    refine qSeq ?_
    refine wRet ?_
    refine qSeqR ?_
    refine finF rfl fun hw => ?_; obtain ⟨w1, w2, w3, w4, w5⟩ := hw; first | contradiction | omega | (obtain ⟨a, h1, h2⟩ := of_decide_eq_true h1_18; exact absurd (w4 a h1) h2)
theorem s23 (n : Int) (c : Cl) (n1 n2 : Bool) (hL : c.acc.length ≤ 1048576) (hL2 : c.rps.length ≤ 1048576) : Pure En 23 [.one (.int .i64 n), .agg (c.T n1 n2)] [.one (.bool (decide (c.OK n)))] := by
  have hl : (c.rps.map Rp.T).length = c.rps.length := List.length_map ..
  have hl2 : (c.acc.map An.T).length = c.acc.length := List.length_map ..
  refine Pure.of_wp Tryd.func23 rfl (Nat.le_of_ble_eq_true rfl) ?_
  refine wSeq ?_
  refine wRegion ?_
  refine rbx (u := .agg [.int _ _, .int _ _, .bool _, .int _ _, .int _ _, .int _ _, .int _ _, .str _, _, _]) rfl rfl rfl rfl rfl rfl rfl ?_
  refine raB rfl rfl rfl rfl rfl ?_
  refine rNil ?_
  refine qSeq ?_
  refine wSeq ?_
  refine wSeq ?_
  refine wRegion ?_
  refine rmI rfl rfl rfl rfl rfl ?_
  refine rclP (s49 n) rfl rfl rfl rfl rfl rfl ?_ ?_ <;> intro h1_1
  · refine rnot (c := true) rfl rfl rfl rfl rfl ?_
    refine rmB rfl rfl rfl rfl rfl ?_
    refine rfa (off := 0) (s := 1) (r := false) rfl rfl rfl (Nat.succ_ne_zero _) rfl rfl rfl ?_
    (apply rlc (v := .int _ _) rfl rfl; (first | ((simp (disch := omega) only [↓app0, ↓appC, ↓updS, ↓updN, ↓hpS, ↓hpN]) <;> first | rfl | assumption) | assumption | rfl); rfl; rfl; rfl; rfl; rfl; rfl)
    refine rclP (s50 _ _ _) rfl rfl rfl rfl rfl rfl ?_ ?_ <;> intro h1_6
    · refine rnot (c := true) rfl rfl rfl rfl rfl ?_
      refine rpk (e := false) rfl rfl rfl rfl rfl rfl ?_
      refine rmB rfl rfl rfl rfl rfl ?_
      refine rfa (off := 1) (s := 1) (r := false) rfl rfl rfl (Nat.succ_ne_zero _) rfl rfl rfl ?_
      (apply rlc (v := .int _ _) rfl rfl; (first | ((simp (disch := omega) only [↓app0, ↓appC, ↓updS, ↓updN, ↓hpS, ↓hpN]) <;> first | rfl | assumption) | assumption | rfl); rfl; rfl; rfl; rfl; rfl; rfl)
      refine rclP (s50 _ _ _) rfl rfl rfl rfl rfl rfl ?_ ?_ <;> intro h1_12
      · refine rnot (c := true) rfl rfl rfl rfl rfl ?_
        refine rpk (e := false) rfl rfl rfl rfl rfl rfl ?_
        refine rmB rfl rfl rfl rfl rfl ?_
        refine rfa (off := 8) (s := 1) (r := false) rfl rfl rfl (Nat.succ_ne_zero _) rfl rfl rfl ?_
        (apply rlc (v := .sl _ _ _) rfl rfl; (first | ((simp (disch := omega) only [↓app0, ↓appC, ↓updS, ↓updN, ↓hpS, ↓hpN]) <;> first | rfl | assumption) | assumption | rfl); rfl; rfl; rfl; rfl; rfl; rfl)
        refine rll rfl rfl rfl rfl rfl rfl ?_
        refine rgt rfl rfl rfl rfl rfl rfl ?_ ?_ <;> intro h1_19
        · refine rpk (e := true) rfl rfl rfl rfl rfl rfl ?_
          refine rNil ?_
          refine qSeq ?_
          refine wT rfl ?_
          refine wSeq ?_
          refine wRegion ?_
          refine raB rfl rfl rfl rfl rfl ?_
          refine rNil ?_
          refine qSeq ?_
          refine wRet ?_
          refine qSeqR ?_
          refine finF rfl fun hw => ?_
          obtain ⟨w1, w2, w3, w4, w5⟩ := hw
          rcases w5 with ⟨v1, v2, v3, v4⟩ | ⟨v1, v2, v3, v4, v5, v6⟩
          · first | contradiction | omega
          · first | contradiction | omega
        · refine rpk (e := false) rfl rfl rfl rfl rfl rfl ?_
          refine rNil ?_
          refine qSeq ?_
          refine wF rfl ?_
          refine wSkip ?_
          refine qSeq ?_
          refine wSeq ?_
          refine wSeq ?_
          refine wRegion ?_
          refine raI rfl rfl rfl rfl rfl ?_
          refine rNil ?_
          refine qSeq ?_
          refine wBlock ?_
          refine wLoop ?_
          refine loopGo (fun (i : Nat) => [.int .i64 n, .unk, .unk, .ptr 0 0 0, .unk, .int .i64 i]) (fun (i : Nat) => hp [(0, ⟨[(c.T n1 n2).map (T.toV false)], 10, 38⟩)]) (fun (i : Nat) => 1) (fun (i : Nat) => i ≤ c.acc.length ∧ ∀ j, j < i → (c.acc.getD j An0).OK) (fun (i : Nat) => c.acc.length - i) 0 ?_ ?_ ?_ ?_ ?_
          · exact ⟨Nat.zero_le _, all0⟩
          · (repeat first | exact LE.nil _ | refine LE.unk _ _ ?_ | refine LE.eq _ _ _ rfl ?_)
          · (repeat first | exact lessH0 | (refine lessHc ?_ ?_; (first | (first | ((simp (disch := omega) only [↓app0, ↓appC, ↓updS, ↓updN, ↓hpS, ↓hpN]) <;> first | rfl | assumption) | assumption | rfl) | fail)))
          · exact Nat.le_refl _
          intro i hI ih
          have hA := hI
          refine lStep ?_
          refine wSeq ?_
          refine wSeq ?_
          refine wRegion ?_
          refine rmI rfl rfl rfl rfl rfl ?_
          refine rfa (off := 9) (s := 1) (r := false) rfl rfl rfl (Nat.succ_ne_zero _) rfl rfl rfl ?_
          (apply rlc (v := .sl _ _ _) rfl rfl; (first | ((simp (disch := omega) only [↓app0, ↓appC, ↓updS, ↓updN, ↓hpS, ↓hpN]) <;> first | rfl | assumption) | assumption | rfl); rfl; rfl; rfl; rfl; rfl; rfl)
          refine rll rfl rfl rfl rfl rfl rfl ?_
          refine rlt rfl rfl rfl rfl rfl rfl ?_ ?_ <;> intro h4_4
          · refine rNil ?_
            refine qSeq ?_
            refine wT rfl ?_
            refine wSkip ?_
            refine qSeq ?_
            refine wSeq ?_
            refine wBlock ?_
            refine wSeq ?_
            refine wRegion ?_
            refine rfa (off := 9) (s := 1) (r := false) rfl rfl rfl (Nat.succ_ne_zero _) rfl rfl rfl ?_
            (apply rlc (v := .sl _ _ _) rfl rfl; (first | ((simp (disch := omega) only [↓app0, ↓appC, ↓updS, ↓updN, ↓hpS, ↓hpN]) <;> first | rfl | assumption) | assumption | rfl); rfl; rfl; rfl; rfl; rfl; rfl)
            refine rmI rfl rfl rfl rfl rfl ?_
            (apply rixl rfl rfl rfl rfl; (first | omega | assumption | (focus (simp; omega))); (first | rfl | assumption | first | exact mapGet An.T An0 (by omega) | exact mapGet Rp.T Rp0 (by omega)); rfl; rfl; rfl; rfl)
            refine rlir (vs := [.int _ _, .int _ _, .int _ _, .int _ _]) rfl rfl rfl (Nat.le_of_ble_eq_true rfl) rfl rfl rfl rfl ?_
            refine rclP (s51 (c.acc.getD i An0)) rfl rfl rfl rfl rfl rfl ?_ ?_ <;> intro h6_5
            · refine rnot (c := true) rfl rfl rfl rfl rfl ?_
              refine rNil ?_
              refine qSeq ?_
              refine wF rfl ?_
              refine wSkip ?_
              refine qBlock ?_
              refine qSeq ?_
              refine wRegion ?_
              refine rmI rfl rfl rfl rfl rfl ?_
              refine raddF rfl rfl rfl ?_ ?_ rfl rfl rfl ?_
              · (first | omega | assumption | (focus (simp; omega)))
              · (first | omega | assumption | (focus (simp; omega)))
              refine raI rfl rfl rfl rfl rfl ?_
              refine rNil ?_
              refine qLoop ?_
              exact wlH (ih (i + 1) ⟨by omega, allS hI.2 h6_5⟩ (by omega)) (by (repeat first | exact LE.nil _ | refine LE.unk _ _ ?_ | refine LE.eq _ _ _ rfl ?_)) (by (repeat first | exact lessH0 | (refine lessHc ?_ ?_; (first | (first | ((simp (disch := omega) only [↓app0, ↓appC, ↓updS, ↓updN, ↓hpS, ↓hpN]) <;> first | rfl | assumption) | assumption | rfl) | fail)))) (Nat.le_refl _)
            · refine rnot (c := false) rfl rfl rfl rfl rfl ?_
              refine rNil ?_
              refine qSeq ?_
              refine wT rfl ?_
              refine wSeq ?_
              refine wRegion ?_
              refine raB rfl rfl rfl rfl rfl ?_
              refine rNil ?_
              refine qSeq ?_
              refine wRet ?_
              refine qBlockR ?_
              refine qSeqR ?_
              refine qLoopR ?_
              refine qBlockR ?_
              refine qSeqR ?_
              refine finF rfl fun hw => ?_; obtain ⟨w1, w2, w3, w4, w5⟩ := hw; exact h6_5 (w4 _ (getD_mem (by omega)))
          · refine rNil ?_
            refine qSeq ?_
            refine wF rfl ?_
            refine wExit ?_
            refine qSeqX ?_
            refine qLoopX ?_
            refine qBlockX ?_
            refine qSeq ?_
            refine wSeq ?_
            refine wSeq ?_
            refine wRegion ?_
            refine rfa (off := 2) (s := 1) (r := false) rfl rfl rfl (Nat.succ_ne_zero _) rfl rfl rfl ?_
            ((apply rlcB rfl rfl; (first | ((simp (disch := omega) only [↓app0, ↓appC, ↓updS, ↓updN, ↓hpS, ↓hpN]) <;> first | rfl | assumption) | assumption | rfl); rfl; rfl; rfl; rfl; rfl; rfl)) <;> intro h8_1
            · refine rnot (c := true) rfl rfl rfl rfl rfl ?_
              refine rNil ?_
              refine qSeq ?_
              refine wF rfl ?_
              refine wSkip ?_
              refine qSeq ?_
              refine wSeq ?_
              refine wSeq ?_
              refine wRegion ?_
              refine rfa (off := 3) (s := 5) (r := true) rfl rfl rfl (Nat.succ_ne_zero _) rfl rfl rfl ?_
              (apply rlr (vs := [.int _ _, .int _ _, .int _ _, .int _ _, .str _]) rfl rfl; (first | ((simp (disch := omega) only [↓app0, ↓appC, ↓updS, ↓updN, ↓hpS, ↓hpN]) <;> first | rfl | assumption) | assumption | rfl); rfl; rfl; (exact Nat.le_of_ble_eq_true rfl); rfl; rfl; rfl; rfl)
              refine rclP (s52 c.rq) rfl rfl rfl rfl rfl rfl ?_ ?_ <;> intro h10_2
              · refine rnot (c := true) rfl rfl rfl rfl rfl ?_
                refine rmB rfl rfl rfl rfl rfl ?_
                refine rfa (off := 3) (s := 5) (r := true) rfl rfl rfl (Nat.succ_ne_zero _) rfl rfl rfl ?_
                refine rfa (off := 0) (s := 1) (r := false) rfl rfl rfl (Nat.succ_ne_zero _) rfl rfl rfl ?_
                (apply rlc (v := .int _ _) rfl rfl; (first | ((simp (disch := omega) only [↓app0, ↓appC, ↓updS, ↓updN, ↓hpS, ↓hpN]) <;> first | rfl | assumption) | assumption | rfl); rfl; rfl; rfl; rfl; rfl; rfl)
                refine rfa (off := 0) (s := 1) (r := false) rfl rfl rfl (Nat.succ_ne_zero _) rfl rfl rfl ?_
                (apply rlc (v := .int _ _) rfl rfl; (first | ((simp (disch := omega) only [↓app0, ↓appC, ↓updS, ↓updN, ↓hpS, ↓hpN]) <;> first | rfl | assumption) | assumption | rfl); rfl; rfl; rfl; rfl; rfl; rfl)
                refine rne rfl rfl rfl rfl rfl rfl ?_ ?_ <;> intro h10_10
                · refine rpk (e := true) rfl rfl rfl rfl rfl rfl ?_
                  refine rmB rfl rfl rfl rfl rfl ?_
                  refine rSkip rfl rfl rfl ?_
                  refine rSkip rfl rfl rfl ?_
                  refine rSkip rfl rfl rfl ?_
                  refine rSkip rfl rfl rfl ?_
                  refine rSkip rfl rfl rfl ?_
                  refine rSkip rfl rfl rfl ?_
                  refine rpk (e := true) rfl rfl rfl rfl rfl rfl ?_
                  refine rmB rfl rfl rfl rfl rfl ?_
                  refine rSkip rfl rfl rfl ?_
                  refine rSkip rfl rfl rfl ?_
                  refine rSkip rfl rfl rfl ?_
                  refine rSkip rfl rfl rfl ?_
                  refine rSkip rfl rfl rfl ?_
                  refine rSkip rfl rfl rfl ?_
                  refine rSkip rfl rfl rfl ?_
                  refine rpk (e := true) rfl rfl rfl rfl rfl rfl ?_
                  refine rNil ?_
                  refine qSeq ?_
                  refine wT rfl ?_
                  refine wSeq ?_
                  refine wRegion ?_
                  refine raB rfl rfl rfl rfl rfl ?_
                  refine rNil ?_
                  refine qSeq ?_
                  refine wRet ?_
                  refine qSeqR ?_
                  refine finF rfl fun hw => ?_
                  obtain ⟨w1, w2, w3, w4, w5⟩ := hw
                  rcases w5 with ⟨v1, v2, v3, v4⟩ | ⟨v1, v2, v3, v4, v5, v6⟩
                  · rw [v1] at h8_1; cases h8_1
                  · obtain ⟨q1, q2, q3⟩ := v3
                    first | contradiction | omega
                · refine rpk (e := false) rfl rfl rfl rfl rfl rfl ?_
                  refine rmB rfl rfl rfl rfl rfl ?_
                  refine rfa (off := 3) (s := 5) (r := true) rfl rfl rfl (Nat.succ_ne_zero _) rfl rfl rfl ?_
                  refine rfa (off := 1) (s := 1) (r := false) rfl rfl rfl (Nat.succ_ne_zero _) rfl rfl rfl ?_
                  (apply rlc (v := .int _ _) rfl rfl; (first | ((simp (disch := omega) only [↓app0, ↓appC, ↓updS, ↓updN, ↓hpS, ↓hpN]) <;> first | rfl | assumption) | assumption | rfl); rfl; rfl; rfl; rfl; rfl; rfl)
                  refine rfa (off := 1) (s := 1) (r := false) rfl rfl rfl (Nat.succ_ne_zero _) rfl rfl rfl ?_
                  (apply rlc (v := .int _ _) rfl rfl; (first | ((simp (disch := omega) only [↓app0, ↓appC, ↓updS, ↓updN, ↓hpS, ↓hpN]) <;> first | rfl | assumption) | assumption | rfl); rfl; rfl; rfl; rfl; rfl; rfl)
                  refine rne rfl rfl rfl rfl rfl rfl ?_ ?_ <;> intro h10_18
                  · refine rpk (e := true) rfl rfl rfl rfl rfl rfl ?_
                    refine rmB rfl rfl rfl rfl rfl ?_
                    refine rSkip rfl rfl rfl ?_
                    refine rSkip rfl rfl rfl ?_
                    refine rSkip rfl rfl rfl ?_
                    refine rSkip rfl rfl rfl ?_
                    refine rSkip rfl rfl rfl ?_
                    refine rSkip rfl rfl rfl ?_
                    refine rSkip rfl rfl rfl ?_
                    refine rpk (e := true) rfl rfl rfl rfl rfl rfl ?_
                    refine rNil ?_
                    refine qSeq ?_
                    refine wT rfl ?_
                    refine wSeq ?_
                    refine wRegion ?_
                    refine raB rfl rfl rfl rfl rfl ?_
                    refine rNil ?_
                    refine qSeq ?_
                    refine wRet ?_
                    refine qSeqR ?_
                    refine finF rfl fun hw => ?_
                    obtain ⟨w1, w2, w3, w4, w5⟩ := hw
                    rcases w5 with ⟨v1, v2, v3, v4⟩ | ⟨v1, v2, v3, v4, v5, v6⟩
                    · rw [v1] at h8_1; cases h8_1
                    · obtain ⟨q1, q2, q3⟩ := v3
                      first | contradiction | omega
                  · refine rpk (e := false) rfl rfl rfl rfl rfl rfl ?_
                    refine rmB rfl rfl rfl rfl rfl ?_
                    refine rfa (off := 9) (s := 1) (r := false) rfl rfl rfl (Nat.succ_ne_zero _) rfl rfl rfl ?_
                    (apply rlc (v := .sl _ _ _) rfl rfl; (first | ((simp (disch := omega) only [↓app0, ↓appC, ↓updS, ↓updN, ↓hpS, ↓hpN]) <;> first | rfl | assumption) | assumption | rfl); rfl; rfl; rfl; rfl; rfl; rfl)
                    refine rll rfl rfl rfl rfl rfl rfl ?_
                    refine rfa (off := 1) (s := 1) (r := false) rfl rfl rfl (Nat.succ_ne_zero _) rfl rfl rfl ?_
                    (apply rlc (v := .int _ _) rfl rfl; (first | ((simp (disch := omega) only [↓app0, ↓appC, ↓updS, ↓updN, ↓hpS, ↓hpN]) <;> first | rfl | assumption) | assumption | rfl); rfl; rfl; rfl; rfl; rfl; rfl)
                    refine rsubF rfl rfl rfl ?_ ?_ rfl rfl rfl ?_
                    · (first | omega | assumption | (focus (simp; omega)))
                    · (first | omega | assumption | (focus (simp; omega)))
                    refine rne rfl rfl rfl rfl rfl rfl ?_ ?_ <;> intro h10_27
                    · refine rpk (e := true) rfl rfl rfl rfl rfl rfl ?_
                      refine rNil ?_
                      refine qSeq ?_
                      refine wT rfl ?_
                      refine wSeq ?_
                      refine wRegion ?_
                      refine raB rfl rfl rfl rfl rfl ?_
                      refine rNil ?_
                      refine qSeq ?_
                      refine wRet ?_
                      refine qSeqR ?_
                      refine finF rfl fun hw => ?_
                      obtain ⟨w1, w2, w3, w4, w5⟩ := hw
                      rcases w5 with ⟨v1, v2, v3, v4⟩ | ⟨v1, v2, v3, v4, v5, v6⟩
                      · rw [v1] at h8_1; cases h8_1
                      · obtain ⟨q1, q2, q3⟩ := v3
                        first | contradiction | omega
                    · refine rpk (e := false) rfl rfl rfl rfl rfl rfl ?_
                      refine rNil ?_
                      refine qSeq ?_
                      refine wF rfl ?_
                      refine wSkip ?_
                      refine qSeq ?_
                      refine wSeq ?_
                      refine wSeq ?_
                      refine wRegion ?_
                      refine raI rfl rfl rfl rfl rfl ?_
                      refine rNil ?_
                      refine qSeq ?_
                      refine wBlock ?_
                      refine wLoop ?_
                      refine loopGo (fun (a : Nat × Nat) => [.int .i64 n, .unk, .unk, .ptr 0 0 0, .unk, .unk, .int .i64 a.1]) (fun (a : Nat × Nat) => hp [(0, ⟨[(c.T n1 n2).map (T.toV false)], 10, 38⟩)]) (fun (a : Nat × Nat) => a.2) (fun (a : Nat × Nat) => 1 ≤ a.2 ∧ a.1 ≤ c.rps.length ∧ ∀ j, j < a.1 → (c.rps.getD j Rp0).OK n ∧ (c.rps.getD j Rp0).cl = c.id ∧ (c.rps.getD j Rp0).st = c.st) (fun (a : Nat × Nat) => c.rps.length - a.1) (0, 1) ?_ ?_ ?_ ?_ ?_
                      · exact ⟨Nat.le_refl _, Nat.zero_le _, all0⟩
                      · (repeat first | exact LE.nil _ | refine LE.unk _ _ ?_ | refine LE.eq _ _ _ rfl ?_)
                      · (repeat first | exact lessH0 | (refine lessHc ?_ ?_; (first | (first | ((simp (disch := omega) only [↓app0, ↓appC, ↓updS, ↓updN, ↓hpS, ↓hpN]) <;> first | rfl | assumption) | assumption | rfl) | fail)))
                      · exact Nat.le_refl _
                      intro ⟨k, m⟩ hI ih
                      dsimp only at hI ⊢
                      refine lStep ?_
                      refine wSeq ?_
                      refine wSeq ?_
                      refine wRegion ?_
                      refine rmI rfl rfl rfl rfl rfl ?_
                      refine rfa (off := 8) (s := 1) (r := false) rfl rfl rfl (Nat.succ_ne_zero _) rfl rfl rfl ?_
                      (apply rlc (v := .sl _ _ _) rfl rfl; (first | ((simp (disch := omega) only [↓app0, ↓appC, ↓updS, ↓updN, ↓hpS, ↓hpN]) <;> first | rfl | assumption) | assumption | rfl); rfl; rfl; rfl; rfl; rfl; rfl)
                      refine rll rfl rfl rfl rfl rfl rfl ?_
                      refine rlt rfl rfl rfl rfl rfl rfl ?_ ?_ <;> intro h13_4
                      · refine rNil ?_
                        refine qSeq ?_
                        refine wT rfl ?_
                        refine wSkip ?_
                        refine qSeq ?_
                        refine wSeq ?_
                        refine wBlock ?_
                        refine wSeq ?_
                        refine wRegion ?_
                        refine rfa (off := 8) (s := 1) (r := false) rfl rfl rfl (Nat.succ_ne_zero _) rfl rfl rfl ?_
                        (apply rlc (v := .sl _ _ _) rfl rfl; (first | ((simp (disch := omega) only [↓app0, ↓appC, ↓updS, ↓updN, ↓hpS, ↓hpN]) <;> first | rfl | assumption) | assumption | rfl); rfl; rfl; rfl; rfl; rfl; rfl)
                        refine rmI rfl rfl rfl rfl rfl ?_
                        (apply rixl rfl rfl rfl rfl; (first | omega | assumption | (focus (simp; omega))); (first | rfl | assumption | first | exact mapGet An.T An0 (by omega) | exact mapGet Rp.T Rp0 (by omega)); rfl; rfl; rfl; rfl)
                        refine rlir (vs := [.int _ _, .int _ _, .int _ _, .int _ _, .int _ _, .int _ _, .int _ _, .str _]) rfl rfl rfl (Nat.le_of_ble_eq_true rfl) rfl rfl rfl rfl ?_
                        refine ral rfl rfl rfl rfl rfl rfl ?_
                        (apply rst (u := .agg [.int _ _, .int _ _, .int _ _, .int _ _, .int _ _, .int _ _, .int _ _, .str _]) rfl rfl rfl; (first | ((simp (disch := omega) only [↓app0, ↓appC, ↓updS, ↓updN, ↓hpS, ↓hpN]) <;> first | rfl | assumption) | assumption | rfl); rfl; rfl; rfl; rfl; rfl; (exact Nat.le_of_ble_eq_true rfl); rfl; rfl; rfl)
                        refine rNil ?_
                        refine qSeq ?_
                        refine wSeq ?_
                        refine wRegion ?_
                        refine rmI rfl rfl rfl rfl rfl ?_
                        (apply rlr (vs := [.int _ _, .int _ _, .int _ _, .int _ _, .int _ _, .int _ _, .int _ _, .str _]) rfl rfl; (first | ((simp (disch := omega) only [↓app0, ↓appC, ↓updS, ↓updN, ↓hpS, ↓hpN]) <;> first | rfl | assumption) | assumption | rfl); rfl; rfl; (exact Nat.le_of_ble_eq_true rfl); rfl; rfl; rfl; rfl)
                        refine rclP (s53 n (c.rps.getD k Rp0)) rfl rfl rfl rfl rfl rfl ?_ ?_ <;> intro h16_2
                        · refine rnot (c := true) rfl rfl rfl rfl rfl ?_
                          refine rmB rfl rfl rfl rfl rfl ?_
                          refine rfa (off := 1) (s := 1) (r := false) rfl rfl rfl (Nat.succ_ne_zero _) rfl rfl rfl ?_
                          (apply rlc (v := .int _ _) rfl rfl; (first | ((simp (disch := omega) only [↓app0, ↓appC, ↓updS, ↓updN, ↓hpS, ↓hpN]) <;> first | rfl | assumption) | assumption | rfl); rfl; rfl; rfl; rfl; rfl; rfl)
                          refine rfa (off := 0) (s := 1) (r := false) rfl rfl rfl (Nat.succ_ne_zero _) rfl rfl rfl ?_
                          (apply rlc (v := .int _ _) rfl rfl; (first | ((simp (disch := omega) only [↓app0, ↓appC, ↓updS, ↓updN, ↓hpS, ↓hpN]) <;> first | rfl | assumption) | assumption | rfl); rfl; rfl; rfl; rfl; rfl; rfl)
                          refine rne rfl rfl rfl rfl rfl rfl ?_ ?_ <;> intro h16_9
                          · refine rpk (e := true) rfl rfl rfl rfl rfl rfl ?_
                            refine rmB rfl rfl rfl rfl rfl ?_
                            refine rSkip rfl rfl rfl ?_
                            refine rSkip rfl rfl rfl ?_
                            refine rSkip rfl rfl rfl ?_
                            refine rSkip rfl rfl rfl ?_
                            refine rSkip rfl rfl rfl ?_
                            refine rpk (e := true) rfl rfl rfl rfl rfl rfl ?_
                            refine rNil ?_
                            refine qSeq ?_
                            refine wT rfl ?_
                            refine wSeq ?_
                            refine wRegion ?_
                            refine raB rfl rfl rfl rfl rfl ?_
                            refine rNil ?_
                            refine qSeq ?_
                            refine wRet ?_
                            refine qBlockR ?_
                            refine qSeqR ?_
                            refine qLoopR ?_
                            refine qBlockR ?_
                            refine qSeqR ?_
                            refine finF rfl fun hw => ?_
                            obtain ⟨w1, w2, w3, w4, w5⟩ := hw
                            rcases w5 with ⟨v1, v2, v3, v4⟩ | ⟨v1, v2, v3, v4, v5, v6⟩
                            · rw [v1] at h8_1; cases h8_1
                            · obtain ⟨q1, q2, q3⟩ := v5 k (by omega)
                              have q4 := (fits_OK h1_1 (c.rps.getD k Rp0)).2 q1
                              first | contradiction | omega
                          · refine rpk (e := false) rfl rfl rfl rfl rfl rfl ?_
                            refine rmB rfl rfl rfl rfl rfl ?_
                            refine rfa (off := 2) (s := 1) (r := false) rfl rfl rfl (Nat.succ_ne_zero _) rfl rfl rfl ?_
                            (apply rlc (v := .int _ _) rfl rfl; (first | ((simp (disch := omega) only [↓app0, ↓appC, ↓updS, ↓updN, ↓hpS, ↓hpN]) <;> first | rfl | assumption) | assumption | rfl); rfl; rfl; rfl; rfl; rfl; rfl)
                            refine rfa (off := 1) (s := 1) (r := false) rfl rfl rfl (Nat.succ_ne_zero _) rfl rfl rfl ?_
                            (apply rlc (v := .int _ _) rfl rfl; (first | ((simp (disch := omega) only [↓app0, ↓appC, ↓updS, ↓updN, ↓hpS, ↓hpN]) <;> first | rfl | assumption) | assumption | rfl); rfl; rfl; rfl; rfl; rfl; rfl)
                            refine rne rfl rfl rfl rfl rfl rfl ?_ ?_ <;> intro h16_16
                            · refine rpk (e := true) rfl rfl rfl rfl rfl rfl ?_
                              refine rNil ?_
                              refine qSeq ?_
                              refine wT rfl ?_
                              refine wSeq ?_
                              refine wRegion ?_
                              refine raB rfl rfl rfl rfl rfl ?_
                              refine rNil ?_
                              refine qSeq ?_
                              refine wRet ?_
                              refine qBlockR ?_
                              refine qSeqR ?_
                              refine qLoopR ?_
                              refine qBlockR ?_
                              refine qSeqR ?_
                              refine finF rfl fun hw => ?_
                              obtain ⟨w1, w2, w3, w4, w5⟩ := hw
                              rcases w5 with ⟨v1, v2, v3, v4⟩ | ⟨v1, v2, v3, v4, v5, v6⟩
                              · rw [v1] at h8_1; cases h8_1
                              · obtain ⟨q1, q2, q3⟩ := v5 k (by omega)
                                have q4 := (fits_OK h1_1 (c.rps.getD k Rp0)).2 q1
                                first | contradiction | omega
                            · refine rpk (e := false) rfl rfl rfl rfl rfl rfl ?_
                              refine rNil ?_
                              refine qSeq ?_
                              refine wF rfl ?_
                              refine wSkip ?_
                              refine qBlock ?_
                              refine qSeq ?_
                              refine wRegion ?_
                              refine rmI rfl rfl rfl rfl rfl ?_
                              refine raddF rfl rfl rfl ?_ ?_ rfl rfl rfl ?_
                              · (first | omega | assumption | (focus (simp; omega)))
                              · (first | omega | assumption | (focus (simp; omega)))
                              refine raI rfl rfl rfl rfl rfl ?_
                              refine rNil ?_
                              refine qLoop ?_
                              exact wlH (ih (k + 1, m + 1) ⟨by dsimp only; omega, by dsimp only; omega, allS hI.2.2 ⟨(fits_OK h1_1 _).1 h16_2, Classical.not_not.1 h16_9, Classical.not_not.1 h16_16⟩⟩ (by dsimp only; omega)) (by (repeat first | exact LE.nil _ | refine LE.unk _ _ ?_ | refine LE.eq _ _ _ rfl ?_)) (by (repeat first | exact lessH0 | (refine lessHc ?_ ?_; (first | (first | ((simp (disch := omega) only [↓app0, ↓appC, ↓updS, ↓updN, ↓hpS, ↓hpN]) <;> first | rfl | assumption) | assumption | rfl) | fail)))) (Nat.le_refl _)
                        · refine rnot (c := false) rfl rfl rfl rfl rfl ?_
                          refine rmB rfl rfl rfl rfl rfl ?_
                          refine rSkip rfl rfl rfl ?_
                          refine rSkip rfl rfl rfl ?_
                          refine rSkip rfl rfl rfl ?_
                          refine rSkip rfl rfl rfl ?_
                          refine rSkip rfl rfl rfl ?_
                          refine rpk (e := true) rfl rfl rfl rfl rfl rfl ?_
                          refine rmB rfl rfl rfl rfl rfl ?_
                          refine rSkip rfl rfl rfl ?_
                          refine rSkip rfl rfl rfl ?_
                          refine rSkip rfl rfl rfl ?_
                          refine rSkip rfl rfl rfl ?_
                          refine rSkip rfl rfl rfl ?_
                          refine rpk (e := true) rfl rfl rfl rfl rfl rfl ?_
                          refine rNil ?_
                          refine qSeq ?_
                          refine wT rfl ?_
                          refine wSeq ?_
                          refine wRegion ?_
                          refine raB rfl rfl rfl rfl rfl ?_
                          refine rNil ?_
                          refine qSeq ?_
                          refine wRet ?_
                          refine qBlockR ?_
                          refine qSeqR ?_
                          refine qLoopR ?_
                          refine qBlockR ?_
                          refine qSeqR ?_
                          refine finF rfl fun hw => ?_
                          obtain ⟨w1, w2, w3, w4, w5⟩ := hw
                          rcases w5 with ⟨v1, v2, v3, v4⟩ | ⟨v1, v2, v3, v4, v5, v6⟩
                          · rw [v1] at h8_1; cases h8_1
                          · obtain ⟨q1, q2, q3⟩ := v5 k (by omega)
                            have q4 := (fits_OK h1_1 (c.rps.getD k Rp0)).2 q1
                            first | contradiction | omega
                      · refine rNil ?_
                        refine qSeq ?_
                        refine wF rfl ?_
                        refine wExit ?_
                        refine qSeqX ?_
                        refine qLoopX ?_
                        refine qBlockX ?_
                        refine qSeq ?_
                        refine wSeq ?_
                        refine wRegion ?_
                        refine rmI rfl rfl rfl rfl rfl ?_
                        refine rfa (off := 0) (s := 1) (r := false) rfl rfl rfl (Nat.succ_ne_zero _) rfl rfl rfl ?_
                        (apply rlc (v := .int _ _) rfl rfl; (first | ((simp (disch := omega) only [↓app0, ↓appC, ↓updS, ↓updN, ↓hpS, ↓hpN]) <;> first | rfl | assumption) | assumption | rfl); rfl; rfl; rfl; rfl; rfl; rfl)
                        refine rfa (off := 1) (s := 1) (r := false) rfl rfl rfl (Nat.succ_ne_zero _) rfl rfl rfl ?_
                        (apply rlc (v := .int _ _) rfl rfl; (first | ((simp (disch := omega) only [↓app0, ↓appC, ↓updS, ↓updN, ↓hpS, ↓hpN]) <;> first | rfl | assumption) | assumption | rfl); rfl; rfl; rfl; rfl; rfl; rfl)
                        refine rfa (off := 8) (s := 1) (r := false) rfl rfl rfl (Nat.succ_ne_zero _) rfl rfl rfl ?_
                        (apply rlc (v := .sl _ _ _) rfl rfl; (first | ((simp (disch := omega) only [↓app0, ↓appC, ↓updS, ↓updN, ↓hpS, ↓hpN]) <;> first | rfl | assumption) | assumption | rfl); rfl; rfl; rfl; rfl; rfl; rfl)
                        refine rcl (s54 n c.id c.st n1 c.rps h1_1 (by omega)) rfl rfl rfl rfl rfl rfl ?_
                        refine rmT rfl rfl rfl rfl rfl ?_
                        refine rex rfl rfl rfl rfl rfl rfl ?_
                        refine rexB rfl rfl rfl rfl rfl rfl ?_ ?_ <;> intro h18_10
                        · refine ral rfl rfl rfl rfl rfl rfl ?_
                          (apply rst (u := .agg [.int _ _, .int _ _, .int _ _, .int _ _]) rfl rfl rfl; (first | ((simp (disch := omega) only [↓app0, ↓appC, ↓updS, ↓updN, ↓hpS, ↓hpN]) <;> first | rfl | assumption) | assumption | rfl); rfl; rfl; rfl; rfl; rfl; (exact Nat.le_of_ble_eq_true rfl); rfl; rfl; rfl)
                          refine raB rfl rfl rfl rfl rfl ?_
                          refine rNil ?_
                          refine qSeq ?_
                          refine wSeq ?_
                          refine wRegion ?_
                          refine rmB rfl rfl rfl rfl rfl ?_
                          refine rnot (c := true) rfl rfl rfl rfl rfl ?_
                          refine raB rfl rfl rfl rfl rfl ?_
                          refine rNil ?_
                          refine qSeq ?_
                          refine wRet ?_
                          first
                            | exact finT rfl ⟨h1_1, by omega, by omega, (all_getD fun j hj => hA.2 j (by omega)), .inr ⟨h8_1, by omega, ⟨h10_2, by omega, by omega⟩, by omega, fun j hj => hI.2.2 j (by omega), h18_10⟩⟩
                            | (refine finF rfl fun hw => ?_
                               obtain ⟨w1, w2, w3, w4, w5⟩ := hw
                               rcases w5 with ⟨v1, v2, v3, v4⟩ | ⟨v1, v2, v3, v4, v5, v6⟩
                               · rw [v1] at h8_1; cases h8_1
                               · rw [v6] at h18_10; cases h18_10)
                        · refine ral rfl rfl rfl rfl rfl rfl ?_
                          (apply rst (u := .agg [.int _ _, .int _ _, .int _ _, .int _ _]) rfl rfl rfl; (first | ((simp (disch := omega) only [↓app0, ↓appC, ↓updS, ↓updN, ↓hpS, ↓hpN]) <;> first | rfl | assumption) | assumption | rfl); rfl; rfl; rfl; rfl; rfl; (exact Nat.le_of_ble_eq_true rfl); rfl; rfl; rfl)
                          refine raB rfl rfl rfl rfl rfl ?_
                          refine rNil ?_
                          refine qSeq ?_
                          refine wSeq ?_
                          refine wRegion ?_
                          refine rmB rfl rfl rfl rfl rfl ?_
                          refine rnot (c := false) rfl rfl rfl rfl rfl ?_
                          refine raB rfl rfl rfl rfl rfl ?_
                          refine rNil ?_
                          refine qSeq ?_
                          refine wRet ?_
                          first
                            | exact finT rfl ⟨h1_1, by omega, by omega, (all_getD fun j hj => hA.2 j (by omega)), .inr ⟨h8_1, by omega, ⟨h10_2, by omega, by omega⟩, by omega, fun j hj => hI.2.2 j (by omega), h18_10⟩⟩
                            | (refine finF rfl fun hw => ?_
                               obtain ⟨w1, w2, w3, w4, w5⟩ := hw
                               rcases w5 with ⟨v1, v2, v3, v4⟩ | ⟨v1, v2, v3, v4, v5, v6⟩
                               · rw [v1] at h8_1; cases h8_1
                               · rw [v6] at h18_10; cases h18_10)
              · refine rnot (c := false) rfl rfl rfl rfl rfl ?_
                refine rmB rfl rfl rfl rfl rfl ?_
                refine rSkip rfl rfl rfl ?_
                refine rSkip rfl rfl rfl ?_
                refine rSkip rfl rfl rfl ?_
                refine rSkip rfl rfl rfl ?_
                refine rSkip rfl rfl rfl ?_
                refine rSkip rfl rfl rfl ?_
                refine rpk (e := true) rfl rfl rfl rfl rfl rfl ?_
                refine rmB rfl rfl rfl rfl rfl ?_
                refine rSkip rfl rfl rfl ?_
                refine rSkip rfl rfl rfl ?_
                refine rSkip rfl rfl rfl ?_
                refine rSkip rfl rfl rfl ?_
                refine rSkip rfl rfl rfl ?_
                refine rSkip rfl rfl rfl ?_
                refine rpk (e := true) rfl rfl rfl rfl rfl rfl ?_
                refine rmB rfl rfl rfl rfl rfl ?_
                refine rSkip rfl rfl rfl ?_
                refine rSkip rfl rfl rfl ?_
                refine rSkip rfl rfl rfl ?_
                refine rSkip rfl rfl rfl ?_
                refine rSkip rfl rfl rfl ?_
                refine rSkip rfl rfl rfl ?_
                refine rSkip rfl rfl rfl ?_
                refine rpk (e := true) rfl rfl rfl rfl rfl rfl ?_
                refine rNil ?_
                refine qSeq ?_
                refine wT rfl ?_
                refine wSeq ?_
                refine wRegion ?_
                refine raB rfl rfl rfl rfl rfl ?_
                refine rNil ?_
                refine qSeq ?_
                refine wRet ?_
                refine qSeqR ?_
                refine finF rfl fun hw => ?_
                obtain ⟨w1, w2, w3, w4, w5⟩ := hw
                rcases w5 with ⟨v1, v2, v3, v4⟩ | ⟨v1, v2, v3, v4, v5, v6⟩
                · rw [v1] at h8_1; cases h8_1
                · obtain ⟨q1, q2, q3⟩ := v3
                  first | contradiction | omega
            · refine rnot (c := false) rfl rfl rfl rfl rfl ?_
              refine rNil ?_
              refine qSeq ?_
              refine wT rfl ?_
              refine wSeq ?_
              refine wRegion ?_
              refine rfa (off := 3) (s := 5) (r := true) rfl rfl rfl (Nat.succ_ne_zero _) rfl rfl rfl ?_
              (apply rlr (vs := [.int _ _, .int _ _, .int _ _, .int _ _, .str _]) rfl rfl; (first | ((simp (disch := omega) only [↓app0, ↓appC, ↓updS, ↓updN, ↓hpS, ↓hpN]) <;> first | rfl | assumption) | assumption | rfl); rfl; rfl; (exact Nat.le_of_ble_eq_true rfl); rfl; rfl; rfl; rfl)
              refine rbd (cs := [.int _ _, .int _ _, .int _ _, .int _ _, .str _]) rfl rfl rfl rfl rfl ?_
              refine rSeql rfl rfl rfl (by kernel_rfl) (eqRq0 c.rq) rfl rfl rfl ?_ ?_ <;> intro h9_3
              · refine rmB rfl rfl rfl rfl rfl ?_
                refine rfa (off := 8) (s := 1) (r := false) rfl rfl rfl (Nat.succ_ne_zero _) rfl rfl rfl ?_
                (apply rlc (v := .sl _ _ _) rfl rfl; (first | ((simp (disch := omega) only [↓app0, ↓appC, ↓updS, ↓updN, ↓hpS, ↓hpN]) <;> first | rfl | assumption) | assumption | rfl); rfl; rfl; rfl; rfl; rfl; rfl)
                refine rll rfl rfl rfl rfl rfl rfl ?_
                refine req rfl rfl rfl rfl rfl rfl ?_ ?_ <;> intro h9_8
                · refine rpk (e := true) rfl rfl rfl rfl rfl rfl ?_
                  refine rmB rfl rfl rfl rfl rfl ?_
                  refine rfa (off := 9) (s := 1) (r := false) rfl rfl rfl (Nat.succ_ne_zero _) rfl rfl rfl ?_
                  (apply rlc (v := .sl _ _ _) rfl rfl; (first | ((simp (disch := omega) only [↓app0, ↓appC, ↓updS, ↓updN, ↓hpS, ↓hpN]) <;> first | rfl | assumption) | assumption | rfl); rfl; rfl; rfl; rfl; rfl; rfl)
                  refine rll rfl rfl rfl rfl rfl rfl ?_
                  refine rfa (off := 1) (s := 1) (r := false) rfl rfl rfl (Nat.succ_ne_zero _) rfl rfl rfl ?_
                  (apply rlc (v := .int _ _) rfl rfl; (first | ((simp (disch := omega) only [↓app0, ↓appC, ↓updS, ↓updN, ↓hpS, ↓hpN]) <;> first | rfl | assumption) | assumption | rfl); rfl; rfl; rfl; rfl; rfl; rfl)
                  refine req rfl rfl rfl rfl rfl rfl ?_ ?_ <;> intro h9_16
                  · refine rpk (e := true) rfl rfl rfl rfl rfl rfl ?_
                    refine raB rfl rfl rfl rfl rfl ?_
                    refine rNil ?_
                    refine qSeq ?_
                    refine wRet ?_
                    refine qSeqR ?_
                    first
                      | exact finT rfl ⟨h1_1, by omega, by omega, (all_getD fun j hj => hI.2 j (by omega)), .inl ⟨h8_1, by omega, (rq0_iff c.rq).1 h9_3, by omega⟩⟩
                      | (refine finF rfl fun hw => ?_
                         obtain ⟨w1, w2, w3, w4, w5⟩ := hw
                         rcases w5 with ⟨v1, v2, v3, v4⟩ | ⟨v1, v2, v3, v4, v5, v6⟩
                         · first | omega | exact rq0_false h9_3 v3
                         · rw [v1] at h8_1; cases h8_1)
                  · refine rpk (e := false) rfl rfl rfl rfl rfl rfl ?_
                    refine raB rfl rfl rfl rfl rfl ?_
                    refine rNil ?_
                    refine qSeq ?_
                    refine wRet ?_
                    refine qSeqR ?_
                    first
                      | exact finT rfl ⟨h1_1, by omega, by omega, (all_getD fun j hj => hI.2 j (by omega)), .inl ⟨h8_1, by omega, (rq0_iff c.rq).1 h9_3, by omega⟩⟩
                      | (refine finF rfl fun hw => ?_
                         obtain ⟨w1, w2, w3, w4, w5⟩ := hw
                         rcases w5 with ⟨v1, v2, v3, v4⟩ | ⟨v1, v2, v3, v4, v5, v6⟩
                         · first | omega | exact rq0_false h9_3 v3
                         · rw [v1] at h8_1; cases h8_1)
                · refine rpk (e := false) rfl rfl rfl rfl rfl rfl ?_
                  refine rmB rfl rfl rfl rfl rfl ?_
                  refine rSkip rfl rfl rfl ?_
                  refine rSkip rfl rfl rfl ?_
                  refine rSkip rfl rfl rfl ?_
                  refine rSkip rfl rfl rfl ?_
                  refine rSkip rfl rfl rfl ?_
                  refine rSkip rfl rfl rfl ?_
                  refine rpk (e := false) rfl rfl rfl rfl rfl rfl ?_
                  refine raB rfl rfl rfl rfl rfl ?_
                  refine rNil ?_
                  refine qSeq ?_
                  refine wRet ?_
                  refine qSeqR ?_
                  first
                    | exact finT rfl ⟨h1_1, by omega, by omega, (all_getD fun j hj => hI.2 j (by omega)), .inl ⟨h8_1, by omega, (rq0_iff c.rq).1 h9_3, by omega⟩⟩
                    | (refine finF rfl fun hw => ?_
                       obtain ⟨w1, w2, w3, w4, w5⟩ := hw
                       rcases w5 with ⟨v1, v2, v3, v4⟩ | ⟨v1, v2, v3, v4, v5, v6⟩
                       · first | omega | exact rq0_false h9_3 v3
                       · rw [v1] at h8_1; cases h8_1)
              · refine rmB rfl rfl rfl rfl rfl ?_
                refine rSkip rfl rfl rfl ?_
                refine rSkip rfl rfl rfl ?_
                refine rSkip rfl rfl rfl ?_
                refine rSkip rfl rfl rfl ?_
                refine rpk (e := false) rfl rfl rfl rfl rfl rfl ?_
                refine rmB rfl rfl rfl rfl rfl ?_
                refine rSkip rfl rfl rfl ?_
                refine rSkip rfl rfl rfl ?_
                refine rSkip rfl rfl rfl ?_
                refine rSkip rfl rfl rfl ?_
                refine rSkip rfl rfl rfl ?_
                refine rSkip rfl rfl rfl ?_
                refine rpk (e := false) rfl rfl rfl rfl rfl rfl ?_
                refine raB rfl rfl rfl rfl rfl ?_
                refine rNil ?_
                refine qSeq ?_
                refine wRet ?_
                refine qSeqR ?_
                first
                  | exact finT rfl ⟨h1_1, by omega, by omega, (all_getD fun j hj => hI.2 j (by omega)), .inl ⟨h8_1, by omega, (rq0_iff c.rq).1 h9_3, by omega⟩⟩
                  | (refine finF rfl fun hw => ?_
                     obtain ⟨w1, w2, w3, w4, w5⟩ := hw
                     rcases w5 with ⟨v1, v2, v3, v4⟩ | ⟨v1, v2, v3, v4, v5, v6⟩
                     · first | omega | exact rq0_false h9_3 v3
                     · rw [v1] at h8_1; cases h8_1)
      · refine rnot (c := false) rfl rfl rfl rfl rfl ?_
        refine rpk (e := true) rfl rfl rfl rfl rfl rfl ?_
        refine rmB rfl rfl rfl rfl rfl ?_
        refine rSkip rfl rfl rfl ?_
        refine rSkip rfl rfl rfl ?_
        refine rSkip rfl rfl rfl ?_
        refine rSkip rfl rfl rfl ?_
        refine rpk (e := true) rfl rfl rfl rfl rfl rfl ?_
        refine rNil ?_
        refine qSeq ?_
        refine wT rfl ?_
        refine wSeq ?_
        refine wRegion ?_
        refine raB rfl rfl rfl rfl rfl ?_
        refine rNil ?_
        refine qSeq ?_
        refine wRet ?_
        refine qSeqR ?_
        refine finF rfl fun hw => ?_
        obtain ⟨w1, w2, w3, w4, w5⟩ := hw
        rcases w5 with ⟨v1, v2, v3, v4⟩ | ⟨v1, v2, v3, v4, v5, v6⟩
        · first | contradiction | omega
        · first | contradiction | omega
    · refine rnot (c := false) rfl rfl rfl rfl rfl ?_
      refine rpk (e := true) rfl rfl rfl rfl rfl rfl ?_
      refine rmB rfl rfl rfl rfl rfl ?_
      refine rSkip rfl rfl rfl ?_
      refine rSkip rfl rfl rfl ?_
      refine rSkip rfl rfl rfl ?_
      refine rSkip rfl rfl rfl ?_
      refine rpk (e := true) rfl rfl rfl rfl rfl rfl ?_
      refine rmB rfl rfl rfl rfl rfl ?_
      refine rSkip rfl rfl rfl ?_
      refine rSkip rfl rfl rfl ?_
      refine rSkip rfl rfl rfl ?_
      refine rSkip rfl rfl rfl ?_
      refine rpk (e := true) rfl rfl rfl rfl rfl rfl ?_
      refine rNil ?_
      refine qSeq ?_
      refine wT rfl ?_
      refine wSeq ?_
      refine wRegion ?_
      refine raB rfl rfl rfl rfl rfl ?_
      refine rNil ?_
      refine qSeq ?_
      refine wRet ?_
      refine qSeqR ?_
      refine finF rfl fun hw => ?_
      obtain ⟨w1, w2, w3, w4, w5⟩ := hw
      rcases w5 with ⟨v1, v2, v3, v4⟩ | ⟨v1, v2, v3, v4, v5, v6⟩
      · first | contradiction | omega
      · first | contradiction | omega
  · refine rnot (c := false) rfl rfl rfl rfl rfl ?_
    refine rmB rfl rfl rfl rfl rfl ?_
    refine rSkip rfl rfl rfl ?_
    refine rSkip rfl rfl rfl ?_
    refine rSkip rfl rfl rfl ?_
    refine rSkip rfl rfl rfl ?_
    refine rpk (e := true) rfl rfl rfl rfl rfl rfl ?_
    refine rmB rfl rfl rfl rfl rfl ?_
    refine rSkip rfl rfl rfl ?_
    refine rSkip rfl rfl rfl ?_
    refine rSkip rfl rfl rfl ?_
    refine rSkip rfl rfl rfl ?_
    refine rpk (e := true) rfl rfl rfl rfl rfl rfl ?_
    refine rmB rfl rfl rfl rfl rfl ?_
    refine rSkip rfl rfl rfl ?_
    refine rSkip rfl rfl rfl ?_
    refine rSkip rfl rfl rfl ?_
    refine rSkip rfl rfl rfl ?_
    refine rpk (e := true) rfl rfl rfl rfl rfl rfl ?_
    refine rNil ?_
    refine qSeq ?_
    refine wT rfl ?_
    refine wSeq ?_
    refine wRegion ?_
    refine raB rfl rfl rfl rfl rfl ?_
    refine rNil ?_
    refine qSeq ?_
    refine wRet ?_
    refine qSeqR ?_
    refine finF rfl fun hw => ?_
    obtain ⟨w1, w2, w3, w4, w5⟩ := hw
    rcases w5 with ⟨v1, v2, v3, v4⟩ | ⟨v1, v2, v3, v4, v5, v6⟩
    · first | contradiction | omega
    · first | contradiction | omega
end Go.Proofs.YtcafccndgpopkaaDoor
