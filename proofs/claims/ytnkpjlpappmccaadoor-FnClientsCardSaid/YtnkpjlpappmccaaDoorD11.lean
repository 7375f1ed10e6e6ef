import Derived.Test.YtnkpjlpappmccaaDoorD10
namespace Go.Proofs.YtnkpjlpappmccaaDoor
open Go.V
set_option linter.unusedVariables false
set_option linter.unusedSimpArgs false
set_option maxRecDepth 20000
set_option maxHeartbeats 4000000

theorem leWr {h h' : Heap} {n : Nat} {wr : List (Nat × Option Blk)} (hw : ∀ j ∈ wr.map (·.1), h' j = app wr h j) (ho : ∀ j, j < n → j ∉ wr.map (·.1) → h' j = h j) :
    (∀ i, n ≤ i → h i = none) → ∀ id b, app wr h id = some b → h' id = some b := by
  intro hz id b hb
  by_cases hi : id ∈ wr.map (·.1)
  · rw [hw id hi]; exact hb
  · rw [app_ne _ _ _ hi] at hb
    rcases Nat.lt_or_ge id n with h1 | h1
    · rw [ho id h1 hi]; exact hb
    · rw [hz id h1] at hb; cases hb

/-! A client that is right. -/
def Cl.OK (n : Int) (c : Cl) : Prop := nodes n ∧ (0 ≤ c.id ∧ c.id ≤ 255) ∧ (0 ≤ c.st ∧ c.st ≤ 65535) ∧ (∀ a ∈ c.acc, a.OK) ∧
  ((c.bz = false ∧ (c.acc.length : Int) = c.st ∧ c.rq = Rq0 ∧ c.rps = []) ∨
   (c.bz = true ∧ (c.acc.length : Int) = c.st - 1 ∧ (c.rq.OK ∧ c.rq.cl = c.id ∧ c.rq.st = c.st) ∧ c.rps.length ≤ 40 ∧ (∀ r ∈ c.rps, r.OK n ∧ r.cl = c.id ∧ r.st = c.st) ∧ dec n c.id c.st c.rps = none))
theorem rq0Eq (r : Rq) (h : r = Rq0) : (r.cl == 0 && (r.st == 0 && (r.kd == 0 && (r.le == 0 && (r.nm.toList == (⟨#[]⟩ : ByteArray).toList && true))))) = true := by
  subst h; simp [Rq0]

theorem p11 (n : Int) (c : Cl) (n1 n2 : Bool) (hc : c.OK n) (hL : c.acc.length ≤ 1000) : Pure En 11 [.one (.int .i64 n), .agg (c.T n1 n2)] [.one (.bool true)] := by
  obtain ⟨w1, w2, w3, w4, w5⟩ := hc
  have hl : (c.rps.map Rp.T).length = c.rps.length := List.length_map ..
  have hl2 : (c.acc.map An.T).length = c.acc.length := List.length_map ..
  have hg : ∀ j, j < c.rps.length → c.rps.getD j Rp0 ∈ c.rps := fun j hj => by
    rw [List.getD_eq_getElem?_getD, List.getElem?_eq_getElem hj]; exact List.getElem_mem _
  refine Pure.of_wp Tryd.func11 rfl (Nat.le_of_ble_eq_true rfl) ?_
  refine wSeq ?_
  refine wRegion ?_
  refine rbx (u := .agg [.int _ _, .int _ _, .bool _, .int _ _, .int _ _, .int _ _, .int _ _, .str _, _, _]) rfl rfl rfl rfl rfl rfl rfl ?_
  refine raB rfl rfl rfl rfl rfl ?_
  refine rNil ?_
  refine qSeq ?_
  refine wSeq ?_
  refine wSeq ?_
  refine wRegion ?_
  refine rmI rfl rfl rfl rfl rfl ?_
  refine rclP (p22 n) rfl rfl rfl rfl rfl rfl ?_ ?_ <;> intro h1_1
  · refine rnot (c := true) rfl rfl rfl rfl rfl ?_
    refine rmB rfl rfl rfl rfl rfl ?_
    refine rfa (off := 0) (s := 1) (r := false) rfl rfl rfl (Nat.succ_ne_zero _) rfl rfl rfl ?_
    (apply rlc (v := .int _ _) rfl rfl; (first | ((simp (disch := omega) only [↓app0, ↓appC, ↓updS, ↓updN, ↓hpS, ↓hpN]) <;> first | rfl | assumption) | assumption | rfl); rfl; rfl; rfl; rfl; rfl; rfl)
    refine rclP (p12 _ _ _) rfl rfl rfl rfl rfl rfl ?_ ?_ <;> intro h1_6
    · refine rnot (c := true) rfl rfl rfl rfl rfl ?_
      refine rpk (e := false) rfl rfl rfl rfl rfl rfl ?_
      refine rmB rfl rfl rfl rfl rfl ?_
      refine rfa (off := 1) (s := 1) (r := false) rfl rfl rfl (Nat.succ_ne_zero _) rfl rfl rfl ?_
      (apply rlc (v := .int _ _) rfl rfl; (first | ((simp (disch := omega) only [↓app0, ↓appC, ↓updS, ↓updN, ↓hpS, ↓hpN]) <;> first | rfl | assumption) | assumption | rfl); rfl; rfl; rfl; rfl; rfl; rfl)
      refine rclP (p12 _ _ _) rfl rfl rfl rfl rfl rfl ?_ ?_ <;> intro h1_12
      · refine rnot (c := true) rfl rfl rfl rfl rfl ?_
        refine rpk (e := false) rfl rfl rfl rfl rfl rfl ?_
        refine rmB rfl rfl rfl rfl rfl ?_
        refine rfa (off := 9) (s := 1) (r := false) rfl rfl rfl (Nat.succ_ne_zero _) rfl rfl rfl ?_
        (apply rlc (v := .sl _ _ _) rfl rfl; (first | ((simp (disch := omega) only [↓app0, ↓appC, ↓updS, ↓updN, ↓hpS, ↓hpN]) <;> first | rfl | assumption) | assumption | rfl); rfl; rfl; rfl; rfl; rfl; rfl)
        refine ropB (o23 false n2 c.acc (by omega)) rfl rfl rfl rfl rfl rfl ?_ ?_
        all_goals intro h1_18
        · refine rpk (e := true) rfl rfl rfl rfl rfl rfl ?_
          refine rNil ?_
          refine qSeq ?_
          refine wT rfl ?_
          refine wSeq ?_
          refine wRegion ?_
          refine raB rfl rfl rfl rfl rfl ?_
          refine rNil ?_
          refine qSeq ?_
          refine wRet ?_
          refine qSeqR ?_
          first
            | contradiction
            | (obtain ⟨a, h1, h2⟩ := of_decide_eq_true h1_18; exact absurd (w4 a h1) h2)
            | omega
        · refine rpk (e := false) rfl rfl rfl rfl rfl rfl ?_
          refine rNil ?_
          refine qSeq ?_
          refine wF rfl ?_
          refine wSkip ?_
          refine qSeq ?_
          refine wSeq ?_
          refine wSeq ?_
          refine wRegion ?_
          refine rfa (off := 2) (s := 1) (r := false) rfl rfl rfl (Nat.succ_ne_zero _) rfl rfl rfl ?_
          ((apply rlcB rfl rfl; (first | ((simp (disch := omega) only [↓app0, ↓appC, ↓updS, ↓updN, ↓hpS, ↓hpN]) <;> first | rfl | assumption) | assumption | rfl); rfl; rfl; rfl; rfl; rfl; rfl)) <;> intro h3_1
          · refine rnot (c := true) rfl rfl rfl rfl rfl ?_
            refine rNil ?_
            refine qSeq ?_
            refine wF rfl ?_
            refine wSkip ?_
            refine qSeq ?_
            refine wSeq ?_
            refine wSeq ?_
            refine wRegion ?_
            refine rfa (off := 9) (s := 1) (r := false) rfl rfl rfl (Nat.succ_ne_zero _) rfl rfl rfl ?_
            (apply rlc (v := .sl _ _ _) rfl rfl; (first | ((simp (disch := omega) only [↓app0, ↓appC, ↓updS, ↓updN, ↓hpS, ↓hpN]) <;> first | rfl | assumption) | assumption | rfl); rfl; rfl; rfl; rfl; rfl; rfl)
            refine rll rfl rfl rfl rfl rfl rfl ?_
            refine rfa (off := 1) (s := 1) (r := false) rfl rfl rfl (Nat.succ_ne_zero _) rfl rfl rfl ?_
            (apply rlc (v := .int _ _) rfl rfl; (first | ((simp (disch := omega) only [↓app0, ↓appC, ↓updS, ↓updN, ↓hpS, ↓hpN]) <;> first | rfl | assumption) | assumption | rfl); rfl; rfl; rfl; rfl; rfl; rfl)
            refine rsubF rfl rfl rfl ?_ ?_ rfl rfl rfl ?_
            · (first | omega | assumption | (focus (simp; omega)))
            · (first | omega | assumption | (focus (simp; omega)))
            refine rne rfl rfl rfl rfl rfl rfl ?_ ?_ <;> intro h5_6
            · refine rmB rfl rfl rfl rfl rfl ?_
              refine rSkip rfl rfl rfl ?_
              refine rSkip rfl rfl rfl ?_
              refine rSkip rfl rfl rfl ?_
              refine rSkip rfl rfl rfl ?_
              refine rSkip rfl rfl rfl ?_
              refine rSkip rfl rfl rfl ?_
              refine rSkip rfl rfl rfl ?_
              refine rSkip rfl rfl rfl ?_
              refine rpk (e := true) rfl rfl rfl rfl rfl rfl ?_
              refine rmB rfl rfl rfl rfl rfl ?_
              refine rSkip rfl rfl rfl ?_
              refine rSkip rfl rfl rfl ?_
              refine rSkip rfl rfl rfl ?_
              refine rSkip rfl rfl rfl ?_
              refine rpk (e := true) rfl rfl rfl rfl rfl rfl ?_
              refine rNil ?_
              refine qSeq ?_
              refine wT rfl ?_
              refine wSeq ?_
              refine wRegion ?_
              refine raB rfl rfl rfl rfl rfl ?_
              refine rNil ?_
              refine qSeq ?_
              refine wRet ?_
              refine qSeqR ?_
              rcases w5 with ⟨v1, v2, v3, v4⟩ | ⟨v1, v2, v3, v4, v5, v6⟩
              · rw [v1] at h3_1; cases h3_1
              · first
                | exact absurd (by rw [hl2]; exact v2) h5_6
                | exact absurd v3 h5_14
                | exact absurd h5_21 (by omega)
            · refine rmB rfl rfl rfl rfl rfl ?_
              refine rfa (off := 3) (s := 5) (r := true) rfl rfl rfl (Nat.succ_ne_zero _) rfl rfl rfl ?_
              (apply rlr (vs := [.int _ _, .int _ _, .int _ _, .int _ _, .str _]) rfl rfl; (first | ((simp (disch := omega) only [↓app0, ↓appC, ↓updS, ↓updN, ↓hpS, ↓hpN]) <;> first | rfl | assumption) | assumption | rfl); rfl; rfl; (exact Nat.le_of_ble_eq_true rfl); rfl; rfl; rfl; rfl)
              refine rfa (off := 0) (s := 1) (r := false) rfl rfl rfl (Nat.succ_ne_zero _) rfl rfl rfl ?_
              (apply rlc (v := .int _ _) rfl rfl; (first | ((simp (disch := omega) only [↓app0, ↓appC, ↓updS, ↓updN, ↓hpS, ↓hpN]) <;> first | rfl | assumption) | assumption | rfl); rfl; rfl; rfl; rfl; rfl; rfl)
              refine rfa (off := 1) (s := 1) (r := false) rfl rfl rfl (Nat.succ_ne_zero _) rfl rfl rfl ?_
              (apply rlc (v := .int _ _) rfl rfl; (first | ((simp (disch := omega) only [↓app0, ↓appC, ↓updS, ↓updN, ↓hpS, ↓hpN]) <;> first | rfl | assumption) | assumption | rfl); rfl; rfl; rfl; rfl; rfl; rfl)
              refine rclP (p26 c.rq _ _) rfl rfl rfl rfl rfl rfl ?_ ?_ <;> intro h5_14
              · refine rnot (c := true) rfl rfl rfl rfl rfl ?_
                refine rpk (e := false) rfl rfl rfl rfl rfl rfl ?_
                refine rmB rfl rfl rfl rfl rfl ?_
                refine rfa (off := 8) (s := 1) (r := false) rfl rfl rfl (Nat.succ_ne_zero _) rfl rfl rfl ?_
                (apply rlc (v := .sl _ _ _) rfl rfl; (first | ((simp (disch := omega) only [↓app0, ↓appC, ↓updS, ↓updN, ↓hpS, ↓hpN]) <;> first | rfl | assumption) | assumption | rfl); rfl; rfl; rfl; rfl; rfl; rfl)
                refine rll rfl rfl rfl rfl rfl rfl ?_
                refine rgt rfl rfl rfl rfl rfl rfl ?_ ?_ <;> intro h5_21
                · refine rpk (e := true) rfl rfl rfl rfl rfl rfl ?_
                  refine rNil ?_
                  refine qSeq ?_
                  refine wT rfl ?_
                  refine wSeq ?_
                  refine wRegion ?_
                  refine raB rfl rfl rfl rfl rfl ?_
                  refine rNil ?_
                  refine qSeq ?_
                  refine wRet ?_
                  refine qSeqR ?_
                  rcases w5 with ⟨v1, v2, v3, v4⟩ | ⟨v1, v2, v3, v4, v5, v6⟩
                  · rw [v1] at h3_1; cases h3_1
                  · first
                    | exact absurd (by rw [hl2]; exact v2) h5_6
                    | exact absurd v3 h5_14
                    | exact absurd h5_21 (by omega)
                · refine rpk (e := false) rfl rfl rfl rfl rfl rfl ?_
                  refine rNil ?_
                  refine qSeq ?_
                  refine wF rfl ?_
                  refine wSkip ?_
                  refine qSeq ?_
                  refine wSeq ?_
                  refine wSeq ?_
                  refine wRegion ?_
                  refine rfa (off := 8) (s := 1) (r := false) rfl rfl rfl (Nat.succ_ne_zero _) rfl rfl rfl ?_
                  (apply rlc (v := .sl _ _ _) rfl rfl; (first | ((simp (disch := omega) only [↓app0, ↓appC, ↓updS, ↓updN, ↓hpS, ↓hpN]) <;> first | rfl | assumption) | assumption | rfl); rfl; rfl; rfl; rfl; rfl; rfl)
                  refine rll rfl rfl rfl rfl rfl rfl ?_
                  refine rmI rfl rfl rfl rfl rfl ?_
                  refine rNil ?_
                  refine qSeq ?_
                  refine wBlock ?_
                  refine wLoop ?_
                  refine loopGo (fun (a : Nat × Nat) => [.int .i64 n, .unk, .unk, .ptr 0 0 0, .unk, .unk, .unk, .unk, .unk, .unk, .unk, .unk, .unk, .unk, .unk, .unk, .unk, .unk, .unk, .unk, .unk, .unk, .unk, .unk, .unk, .unk, .unk, .unk, .unk, .unk, .unk, .unk, .unk, .unk, .unk, .unk, .unk, .unk, .unk, .unk, .unk, .unk, .unk, .unk, .unk, .unk, .unk, .unk, .unk, .unk, .unk, .unk, .unk, .unk, .unk, .unk, .unk, .unk, .unk, .unk, .unk, .unk, .unk, .unk, .unk, .unk, .unk, .unk, .unk, .unk, .unk, .unk, .unk, .unk, .sl false n1 (c.rps.map Rp.T), .int .i64 (c.rps.map Rp.T).length, .int .i64 a.1]) (fun (a : Nat × Nat) => hp [(0, ⟨[(c.T n1 n2).map (T.toV false)], 10, 28⟩)]) (fun (a : Nat × Nat) => a.2) (fun (a : Nat × Nat) => a.1 ≤ c.rps.length ∧ 1 ≤ a.2) (fun (a : Nat × Nat) => c.rps.length - a.1) (0, 1) ?_ ?_ ?_ ?_ ?_
                  · exact ⟨Nat.zero_le _, Nat.le_refl _⟩
                  · (repeat first | exact LE.nil _ | refine LE.unk _ _ ?_ | refine LE.eq _ _ _ rfl ?_)
                  · (repeat first | exact lessH0 | (refine lessHc ?_ ?_; (first | (first | ((simp (disch := omega) only [↓app0, ↓appC, ↓updS, ↓updN, ↓hpS, ↓hpN]) <;> first | rfl | assumption) | assumption | rfl) | fail)))
                  · exact Nat.le_refl _
                  intro ⟨i, m⟩ hI ih
                  dsimp only at hI ⊢
                  have hr40 : c.rps.length ≤ 40 := by
                    rcases w5 with ⟨v1, v2, v3, v4⟩ | ⟨v1, v2, v3, v4, v5, v6⟩
                    · rw [v4]; exact Nat.zero_le _
                    · exact v4
                  refine lStep ?_
                  refine wSeq ?_
                  refine wRegion ?_
                  refine rlt rfl rfl rfl rfl rfl rfl ?_ ?_ <;> intro h8_0
                  · refine rNil ?_
                    refine qSeq ?_
                    refine wSeq ?_
                    refine wT rfl ?_
                    refine wSkip ?_
                    refine qSeq ?_
                    refine wSeq ?_
                    refine wBlock ?_
                    refine wSeq ?_
                    refine wRegion ?_
                    (apply rixl rfl rfl rfl rfl; (first | omega | assumption | (focus (simp; omega))); (first | rfl | assumption | (exact mapGet Rp.T Rp0 (by omega))); rfl; rfl; rfl; rfl)
                    refine rlir (vs := [.int _ _, .int _ _, .int _ _, .int _ _, .int _ _, .int _ _, .int _ _, .str _]) rfl rfl rfl (Nat.le_of_ble_eq_true rfl) rfl rfl rfl rfl ?_
                    refine ral rfl rfl rfl rfl rfl rfl ?_
                    (apply rst (u := .agg [.int _ _, .int _ _, .int _ _, .int _ _, .int _ _, .int _ _, .int _ _, .str _]) rfl rfl rfl; (first | ((simp (disch := omega) only [↓app0, ↓appC, ↓updS, ↓updN, ↓hpS, ↓hpN]) <;> first | rfl | assumption) | assumption | rfl); rfl; rfl; rfl; rfl; rfl; (exact Nat.le_of_ble_eq_true rfl); rfl; rfl; rfl)
                    refine rNil ?_
                    refine qSeq ?_
                    refine wSeq ?_
                    refine wRegion ?_
                    refine rmI rfl rfl rfl rfl rfl ?_
                    (apply rlr (vs := [.int _ _, .int _ _, .int _ _, .int _ _, .int _ _, .int _ _, .int _ _, .str _]) rfl rfl; (first | ((simp (disch := omega) only [↓app0, ↓appC, ↓updS, ↓updN, ↓hpS, ↓hpN]) <;> first | rfl | assumption) | assumption | rfl); rfl; rfl; (exact Nat.le_of_ble_eq_true rfl); rfl; rfl; rfl; rfl)
                    refine rclP (p27 n (c.rps.getD i Rp0)) rfl rfl rfl rfl rfl rfl ?_ ?_ <;> intro h10_2
                    · refine rnot (c := true) rfl rfl rfl rfl rfl ?_
                      refine rmB rfl rfl rfl rfl rfl ?_
                      refine rfa (off := 1) (s := 1) (r := false) rfl rfl rfl (Nat.succ_ne_zero _) rfl rfl rfl ?_
                      (apply rlc (v := .int _ _) rfl rfl; (first | ((simp (disch := omega) only [↓app0, ↓appC, ↓updS, ↓updN, ↓hpS, ↓hpN]) <;> first | rfl | assumption) | assumption | rfl); rfl; rfl; rfl; rfl; rfl; rfl)
                      refine rfa (off := 0) (s := 1) (r := false) rfl rfl rfl (Nat.succ_ne_zero _) rfl rfl rfl ?_
                      (apply rlc (v := .int _ _) rfl rfl; (first | ((simp (disch := omega) only [↓app0, ↓appC, ↓updS, ↓updN, ↓hpS, ↓hpN]) <;> first | rfl | assumption) | assumption | rfl); rfl; rfl; rfl; rfl; rfl; rfl)
                      refine rne rfl rfl rfl rfl rfl rfl ?_ ?_ <;> intro h10_9
                      · refine rpk (e := true) rfl rfl rfl rfl rfl rfl ?_
                        refine rmB rfl rfl rfl rfl rfl ?_
                        refine rSkip rfl rfl rfl ?_
                        refine rSkip rfl rfl rfl ?_
                        refine rSkip rfl rfl rfl ?_
                        refine rSkip rfl rfl rfl ?_
                        refine rSkip rfl rfl rfl ?_
                        refine rpk (e := true) rfl rfl rfl rfl rfl rfl ?_
                        refine rNil ?_
                        refine qSeq ?_
                        refine wT rfl ?_
                        refine wSeq ?_
                        refine wRegion ?_
                        refine raB rfl rfl rfl rfl rfl ?_
                        refine rNil ?_
                        refine qSeq ?_
                        refine wRet ?_
                        refine qBlockR ?_
                        refine qSeqR ?_
                        refine qLoopR ?_
                        refine qBlockR ?_
                        refine qSeqR ?_
                        rcases w5 with ⟨v1, v2, v3, v4⟩ | ⟨v1, v2, v3, v4, v5, v6⟩
                        · rw [v1] at h3_1; cases h3_1
                        · have hv := v5 _ (hg i (by omega))
                          first
                          | exact absurd hv.1 h10_2
                          | exact absurd hv.2.1 h10_9
                          | exact absurd hv.2.2 h10_16
                      · refine rpk (e := false) rfl rfl rfl rfl rfl rfl ?_
                        refine rmB rfl rfl rfl rfl rfl ?_
                        refine rfa (off := 2) (s := 1) (r := false) rfl rfl rfl (Nat.succ_ne_zero _) rfl rfl rfl ?_
                        (apply rlc (v := .int _ _) rfl rfl; (first | ((simp (disch := omega) only [↓app0, ↓appC, ↓updS, ↓updN, ↓hpS, ↓hpN]) <;> first | rfl | assumption) | assumption | rfl); rfl; rfl; rfl; rfl; rfl; rfl)
                        refine rfa (off := 1) (s := 1) (r := false) rfl rfl rfl (Nat.succ_ne_zero _) rfl rfl rfl ?_
                        (apply rlc (v := .int _ _) rfl rfl; (first | ((simp (disch := omega) only [↓app0, ↓appC, ↓updS, ↓updN, ↓hpS, ↓hpN]) <;> first | rfl | assumption) | assumption | rfl); rfl; rfl; rfl; rfl; rfl; rfl)
                        refine rne rfl rfl rfl rfl rfl rfl ?_ ?_ <;> intro h10_16
                        · refine rpk (e := true) rfl rfl rfl rfl rfl rfl ?_
                          refine rNil ?_
                          refine qSeq ?_
                          refine wT rfl ?_
                          refine wSeq ?_
                          refine wRegion ?_
                          refine raB rfl rfl rfl rfl rfl ?_
                          refine rNil ?_
                          refine qSeq ?_
                          refine wRet ?_
                          refine qBlockR ?_
                          refine qSeqR ?_
                          refine qLoopR ?_
                          refine qBlockR ?_
                          refine qSeqR ?_
                          rcases w5 with ⟨v1, v2, v3, v4⟩ | ⟨v1, v2, v3, v4, v5, v6⟩
                          · rw [v1] at h3_1; cases h3_1
                          · have hv := v5 _ (hg i (by omega))
                            first
                            | exact absurd hv.1 h10_2
                            | exact absurd hv.2.1 h10_9
                            | exact absurd hv.2.2 h10_16
                        · refine rpk (e := false) rfl rfl rfl rfl rfl rfl ?_
                          refine rNil ?_
                          refine qSeq ?_
                          refine wF rfl ?_
                          refine wSkip ?_
                          refine qBlock ?_
                          refine qSeq ?_
                          refine wRegion ?_
                          refine raddF rfl rfl rfl ?_ ?_ rfl rfl rfl ?_
                          · (first | omega | assumption | (focus (simp; omega)))
                          · (first | omega | assumption | (focus (simp; omega)))
                          refine rmI rfl rfl rfl rfl rfl ?_
                          refine rNil ?_
                          refine qLoop ?_
                          exact wlH (ih (i + 1, m + 1) ⟨by dsimp only; omega, by dsimp only; omega⟩ (by dsimp only; omega)) (by (repeat first | exact LE.nil _ | refine LE.unk _ _ ?_ | refine LE.eq _ _ _ rfl ?_)) (by (repeat first | exact lessH0 | (refine lessHc ?_ ?_; (first | (first | ((simp (disch := omega) only [↓app0, ↓appC, ↓updS, ↓updN, ↓hpS, ↓hpN]) <;> first | rfl | assumption) | assumption | rfl) | fail)))) (Nat.le_refl _)
                    · refine rnot (c := false) rfl rfl rfl rfl rfl ?_
                      refine rmB rfl rfl rfl rfl rfl ?_
                      refine rSkip rfl rfl rfl ?_
                      refine rSkip rfl rfl rfl ?_
                      refine rSkip rfl rfl rfl ?_
                      refine rSkip rfl rfl rfl ?_
                      refine rSkip rfl rfl rfl ?_
                      refine rpk (e := true) rfl rfl rfl rfl rfl rfl ?_
                      refine rmB rfl rfl rfl rfl rfl ?_
                      refine rSkip rfl rfl rfl ?_
                      refine rSkip rfl rfl rfl ?_
                      refine rSkip rfl rfl rfl ?_
                      refine rSkip rfl rfl rfl ?_
                      refine rSkip rfl rfl rfl ?_
                      refine rpk (e := true) rfl rfl rfl rfl rfl rfl ?_
                      refine rNil ?_
                      refine qSeq ?_
                      refine wT rfl ?_
                      refine wSeq ?_
                      refine wRegion ?_
                      refine raB rfl rfl rfl rfl rfl ?_
                      refine rNil ?_
                      refine qSeq ?_
                      refine wRet ?_
                      refine qBlockR ?_
                      refine qSeqR ?_
                      refine qLoopR ?_
                      refine qBlockR ?_
                      refine qSeqR ?_
                      rcases w5 with ⟨v1, v2, v3, v4⟩ | ⟨v1, v2, v3, v4, v5, v6⟩
                      · rw [v1] at h3_1; cases h3_1
                      · have hv := v5 _ (hg i (by omega))
                        first
                        | exact absurd hv.1 h10_2
                        | exact absurd hv.2.1 h10_9
                        | exact absurd hv.2.2 h10_16
                  · refine rNil ?_
                    refine qSeq ?_
                    refine wSeq ?_
                    refine wF rfl ?_
                    refine wExit ?_
                    refine qSeqX ?_
                    refine qLoopX ?_
                    refine qBlockX ?_
                    refine qSeq ?_
                    refine wSeq ?_
                    refine wRegion ?_
                    refine rmI rfl rfl rfl rfl rfl ?_
                    refine rfa (off := 0) (s := 1) (r := false) rfl rfl rfl (Nat.succ_ne_zero _) rfl rfl rfl ?_
                    (apply rlc (v := .int _ _) rfl rfl; (first | ((simp (disch := omega) only [↓app0, ↓appC, ↓updS, ↓updN, ↓hpS, ↓hpN]) <;> first | rfl | assumption) | assumption | rfl); rfl; rfl; rfl; rfl; rfl; rfl)
                    refine rfa (off := 1) (s := 1) (r := false) rfl rfl rfl (Nat.succ_ne_zero _) rfl rfl rfl ?_
                    (apply rlc (v := .int _ _) rfl rfl; (first | ((simp (disch := omega) only [↓app0, ↓appC, ↓updS, ↓updN, ↓hpS, ↓hpN]) <;> first | rfl | assumption) | assumption | rfl); rfl; rfl; rfl; rfl; rfl; rfl)
                    refine rfa (off := 8) (s := 1) (r := false) rfl rfl rfl (Nat.succ_ne_zero _) rfl rfl rfl ?_
                    (apply rlc (v := .sl _ _ _) rfl rfl; (first | ((simp (disch := omega) only [↓app0, ↓appC, ↓updS, ↓updN, ↓hpS, ↓hpN]) <;> first | rfl | assumption) | assumption | rfl); rfl; rfl; rfl; rfl; rfl; rfl)
                    refine rcl (p28 n c.id c.st n1 c.rps (by omega)) rfl rfl rfl rfl rfl rfl ?_
                    refine rmT rfl rfl rfl rfl rfl ?_
                    refine rex rfl rfl rfl rfl rfl rfl ?_
                    refine rexB rfl rfl rfl rfl rfl rfl ?_ ?_ <;> intro h13_10
                    · refine ral rfl rfl rfl rfl rfl rfl ?_
                      (apply rst (u := .agg [.int _ _, .int _ _, .int _ _, .int _ _]) rfl rfl rfl; (first | ((simp (disch := omega) only [↓app0, ↓appC, ↓updS, ↓updN, ↓hpS, ↓hpN]) <;> first | rfl | assumption) | assumption | rfl); rfl; rfl; rfl; rfl; rfl; (exact Nat.le_of_ble_eq_true rfl); rfl; rfl; rfl)
                      refine raB rfl rfl rfl rfl rfl ?_
                      refine rNil ?_
                      refine qSeq ?_
                      refine wSeq ?_
                      refine wRegion ?_
                      refine rmB rfl rfl rfl rfl rfl ?_
                      refine rnot (c := true) rfl rfl rfl rfl rfl ?_
                      refine raB rfl rfl rfl rfl rfl ?_
                      refine rNil ?_
                      refine qSeq ?_
                      refine wRet ?_
                      rcases w5 with ⟨v1, v2, v3, v4⟩ | ⟨v1, v2, v3, v4, v5, v6⟩
                      · rw [v1] at h3_1; cases h3_1
                      · rw [v6] at h13_10
                        first
                        | exact fin rfl rfl
                        | cases h13_10
                    · refine ral rfl rfl rfl rfl rfl rfl ?_
                      (apply rst (u := .agg [.int _ _, .int _ _, .int _ _, .int _ _]) rfl rfl rfl; (first | ((simp (disch := omega) only [↓app0, ↓appC, ↓updS, ↓updN, ↓hpS, ↓hpN]) <;> first | rfl | assumption) | assumption | rfl); rfl; rfl; rfl; rfl; rfl; (exact Nat.le_of_ble_eq_true rfl); rfl; rfl; rfl)
                      refine raB rfl rfl rfl rfl rfl ?_
                      refine rNil ?_
                      refine qSeq ?_
                      refine wSeq ?_
                      refine wRegion ?_
                      refine rmB rfl rfl rfl rfl rfl ?_
                      refine rnot (c := false) rfl rfl rfl rfl rfl ?_
                      refine raB rfl rfl rfl rfl rfl ?_
                      refine rNil ?_
                      refine qSeq ?_
                      refine wRet ?_
                      rcases w5 with ⟨v1, v2, v3, v4⟩ | ⟨v1, v2, v3, v4, v5, v6⟩
                      · rw [v1] at h3_1; cases h3_1
                      · rw [v6] at h13_10
                        first
                        | exact fin rfl rfl
                        | cases h13_10
              · refine rnot (c := false) rfl rfl rfl rfl rfl ?_
                refine rpk (e := true) rfl rfl rfl rfl rfl rfl ?_
                refine rmB rfl rfl rfl rfl rfl ?_
                refine rSkip rfl rfl rfl ?_
                refine rSkip rfl rfl rfl ?_
                refine rSkip rfl rfl rfl ?_
                refine rSkip rfl rfl rfl ?_
                refine rpk (e := true) rfl rfl rfl rfl rfl rfl ?_
                refine rNil ?_
                refine qSeq ?_
                refine wT rfl ?_
                refine wSeq ?_
                refine wRegion ?_
                refine raB rfl rfl rfl rfl rfl ?_
                refine rNil ?_
                refine qSeq ?_
                refine wRet ?_
                refine qSeqR ?_
                rcases w5 with ⟨v1, v2, v3, v4⟩ | ⟨v1, v2, v3, v4, v5, v6⟩
                · rw [v1] at h3_1; cases h3_1
                · first
                  | exact absurd (by rw [hl2]; exact v2) h5_6
                  | exact absurd v3 h5_14
                  | exact absurd h5_21 (by omega)
          · refine rnot (c := false) rfl rfl rfl rfl rfl ?_
            refine rNil ?_
            refine qSeq ?_
            refine wT rfl ?_
            refine wSeq ?_
            refine wRegion ?_
            refine rfa (off := 9) (s := 1) (r := false) rfl rfl rfl (Nat.succ_ne_zero _) rfl rfl rfl ?_
            (apply rlc (v := .sl _ _ _) rfl rfl; (first | ((simp (disch := omega) only [↓app0, ↓appC, ↓updS, ↓updN, ↓hpS, ↓hpN]) <;> first | rfl | assumption) | assumption | rfl); rfl; rfl; rfl; rfl; rfl; rfl)
            refine rll rfl rfl rfl rfl rfl rfl ?_
            refine rfa (off := 1) (s := 1) (r := false) rfl rfl rfl (Nat.succ_ne_zero _) rfl rfl rfl ?_
            (apply rlc (v := .int _ _) rfl rfl; (first | ((simp (disch := omega) only [↓app0, ↓appC, ↓updS, ↓updN, ↓hpS, ↓hpN]) <;> first | rfl | assumption) | assumption | rfl); rfl; rfl; rfl; rfl; rfl; rfl)
            refine req rfl rfl rfl rfl rfl rfl ?_ ?_ <;> intro h4_5
            · refine rmB rfl rfl rfl rfl rfl ?_
              refine rfa (off := 3) (s := 5) (r := true) rfl rfl rfl (Nat.succ_ne_zero _) rfl rfl rfl ?_
              (apply rlr (vs := [.int _ _, .int _ _, .int _ _, .int _ _, .str _]) rfl rfl; (first | ((simp (disch := omega) only [↓app0, ↓appC, ↓updS, ↓updN, ↓hpS, ↓hpN]) <;> first | rfl | assumption) | assumption | rfl); rfl; rfl; (exact Nat.le_of_ble_eq_true rfl); rfl; rfl; rfl; rfl)
              refine rbd (cs := [.int _ _, .int _ _, .int _ _, .int _ _, .str _]) rfl rfl rfl rfl rfl ?_
              refine rSeql rfl rfl rfl (by kernel_rfl) rfl rfl rfl rfl ?_ ?_ <;> intro h4_10
              · refine rpk (e := true) rfl rfl rfl rfl rfl rfl ?_
                refine rmB rfl rfl rfl rfl rfl ?_
                refine rfa (off := 8) (s := 1) (r := false) rfl rfl rfl (Nat.succ_ne_zero _) rfl rfl rfl ?_
                (apply rlc (v := .sl _ _ _) rfl rfl; (first | ((simp (disch := omega) only [↓app0, ↓appC, ↓updS, ↓updN, ↓hpS, ↓hpN]) <;> first | rfl | assumption) | assumption | rfl); rfl; rfl; rfl; rfl; rfl; rfl)
                refine rll rfl rfl rfl rfl rfl rfl ?_
                refine req rfl rfl rfl rfl rfl rfl ?_ ?_ <;> intro h4_16
                · refine rpk (e := true) rfl rfl rfl rfl rfl rfl ?_
                  refine raB rfl rfl rfl rfl rfl ?_
                  refine rNil ?_
                  refine qSeq ?_
                  refine wRet ?_
                  refine qSeqR ?_
                  rcases w5 with ⟨v1, v2, v3, v4⟩ | ⟨v1, v2⟩
                  · first
                    | exact fin rfl rfl
                    | exact absurd (by rw [hl2]; exact v2) h4_5
                    | exact absurd ((rq0Eq c.rq v3).symm.trans h4_10) Bool.true_eq_false.mp
                    | exact absurd (by rw [hl, v4]; rfl) h4_16
                  · rw [v1] at h3_1; cases h3_1
                · refine rpk (e := false) rfl rfl rfl rfl rfl rfl ?_
                  refine raB rfl rfl rfl rfl rfl ?_
                  refine rNil ?_
                  refine qSeq ?_
                  refine wRet ?_
                  refine qSeqR ?_
                  rcases w5 with ⟨v1, v2, v3, v4⟩ | ⟨v1, v2⟩
                  · first
                    | exact fin rfl rfl
                    | exact absurd (by rw [hl2]; exact v2) h4_5
                    | exact absurd ((rq0Eq c.rq v3).symm.trans h4_10) Bool.true_eq_false.mp
                    | exact absurd (by rw [hl, v4]; rfl) h4_16
                  · rw [v1] at h3_1; cases h3_1
              · refine rpk (e := false) rfl rfl rfl rfl rfl rfl ?_
                refine rmB rfl rfl rfl rfl rfl ?_
                refine rSkip rfl rfl rfl ?_
                refine rSkip rfl rfl rfl ?_
                refine rSkip rfl rfl rfl ?_
                refine rSkip rfl rfl rfl ?_
                refine rpk (e := false) rfl rfl rfl rfl rfl rfl ?_
                refine raB rfl rfl rfl rfl rfl ?_
                refine rNil ?_
                refine qSeq ?_
                refine wRet ?_
                refine qSeqR ?_
                rcases w5 with ⟨v1, v2, v3, v4⟩ | ⟨v1, v2⟩
                · first
                  | exact fin rfl rfl
                  | exact absurd (by rw [hl2]; exact v2) h4_5
                  | exact absurd ((rq0Eq c.rq v3).symm.trans h4_10) Bool.true_eq_false.mp
                  | exact absurd (by rw [hl, v4]; rfl) h4_16
                · rw [v1] at h3_1; cases h3_1
            · refine rmB rfl rfl rfl rfl rfl ?_
              refine rSkip rfl rfl rfl ?_
              refine rSkip rfl rfl rfl ?_
              refine rSkip rfl rfl rfl ?_
              refine rSkip rfl rfl rfl ?_
              refine rpk (e := false) rfl rfl rfl rfl rfl rfl ?_
              refine rmB rfl rfl rfl rfl rfl ?_
              refine rSkip rfl rfl rfl ?_
              refine rSkip rfl rfl rfl ?_
              refine rSkip rfl rfl rfl ?_
              refine rSkip rfl rfl rfl ?_
              refine rpk (e := false) rfl rfl rfl rfl rfl rfl ?_
              refine raB rfl rfl rfl rfl rfl ?_
              refine rNil ?_
              refine qSeq ?_
              refine wRet ?_
              refine qSeqR ?_
              rcases w5 with ⟨v1, v2, v3, v4⟩ | ⟨v1, v2⟩
              · first
                | exact fin rfl rfl
                | exact absurd (by rw [hl2]; exact v2) h4_5
                | exact absurd ((rq0Eq c.rq v3).symm.trans h4_10) Bool.true_eq_false.mp
                | exact absurd (by rw [hl, v4]; rfl) h4_16
              · rw [v1] at h3_1; cases h3_1
      · refine rnot (c := false) rfl rfl rfl rfl rfl ?_
        refine rpk (e := true) rfl rfl rfl rfl rfl rfl ?_
        refine rmB rfl rfl rfl rfl rfl ?_
        refine rSkip rfl rfl rfl ?_
        refine rSkip rfl rfl rfl ?_
        refine rSkip rfl rfl rfl ?_
        refine rpk (e := true) rfl rfl rfl rfl rfl rfl ?_
        refine rNil ?_
        refine qSeq ?_
        refine wT rfl ?_
        refine wSeq ?_
        refine wRegion ?_
        refine raB rfl rfl rfl rfl rfl ?_
        refine rNil ?_
        refine qSeq ?_
        refine wRet ?_
        refine qSeqR ?_
        first
          | contradiction
          | (obtain ⟨a, h1, h2⟩ := of_decide_eq_true h1_18; exact absurd (w4 a h1) h2)
          | omega
    · refine rnot (c := false) rfl rfl rfl rfl rfl ?_
      refine rpk (e := true) rfl rfl rfl rfl rfl rfl ?_
      refine rmB rfl rfl rfl rfl rfl ?_
      refine rSkip rfl rfl rfl ?_
      refine rSkip rfl rfl rfl ?_
      refine rSkip rfl rfl rfl ?_
      refine rSkip rfl rfl rfl ?_
      refine rpk (e := true) rfl rfl rfl rfl rfl rfl ?_
      refine rmB rfl rfl rfl rfl rfl ?_
      refine rSkip rfl rfl rfl ?_
      refine rSkip rfl rfl rfl ?_
      refine rSkip rfl rfl rfl ?_
      refine rpk (e := true) rfl rfl rfl rfl rfl rfl ?_
      refine rNil ?_
      refine qSeq ?_
      refine wT rfl ?_
      refine wSeq ?_
      refine wRegion ?_
      refine raB rfl rfl rfl rfl rfl ?_
      refine rNil ?_
      refine qSeq ?_
      refine wRet ?_
      refine qSeqR ?_
      first
        | contradiction
        | (obtain ⟨a, h1, h2⟩ := of_decide_eq_true h1_18; exact absurd (w4 a h1) h2)
        | omega
  · refine rnot (c := false) rfl rfl rfl rfl rfl ?_
    refine rmB rfl rfl rfl rfl rfl ?_
    refine rSkip rfl rfl rfl ?_
    refine rSkip rfl rfl rfl ?_
    refine rSkip rfl rfl rfl ?_
    refine rSkip rfl rfl rfl ?_
    refine rpk (e := true) rfl rfl rfl rfl rfl rfl ?_
    refine rmB rfl rfl rfl rfl rfl ?_
    refine rSkip rfl rfl rfl ?_
    refine rSkip rfl rfl rfl ?_
    refine rSkip rfl rfl rfl ?_
    refine rSkip rfl rfl rfl ?_
    refine rpk (e := true) rfl rfl rfl rfl rfl rfl ?_
    refine rmB rfl rfl rfl rfl rfl ?_
    refine rSkip rfl rfl rfl ?_
    refine rSkip rfl rfl rfl ?_
    refine rSkip rfl rfl rfl ?_
    refine rpk (e := true) rfl rfl rfl rfl rfl rfl ?_
    refine rNil ?_
    refine qSeq ?_
    refine wT rfl ?_
    refine wSeq ?_
    refine wRegion ?_
    refine raB rfl rfl rfl rfl rfl ?_
    refine rNil ?_
    refine qSeq ?_
    refine wRet ?_
    refine qSeqR ?_
    first
      | contradiction
      | (obtain ⟨a, h1, h2⟩ := of_decide_eq_true h1_18; exact absurd (w4 a h1) h2)
      | omega
end Go.Proofs.YtnkpjlpappmccaaDoor
