import Derived.Test.YtnkpjlpappmccaaDoorD15
namespace Go.Proofs.YtnkpjlpappmccaaDoor
open Go.V
set_option linter.unusedVariables false
set_option linter.unusedSimpArgs false
set_option maxRecDepth 20000
set_option maxHeartbeats 8000000

theorem eqAn (a b : An) : eqV En.P 10000 35 (.agg a.V) (.agg b.V) = some ((a.kd == b.kd) && ((a.tk == b.tk) && ((a.hd == b.hd) && ((a.ex == b.ex) && true)))) := by kernel_rfl
theorem okApp {acc : List An} {a : An} (h : ∀ x ∈ acc, x.OK) (ha : a.OK) : ∀ x ∈ acc ++ [a], x.OK := fun x hx => by
  rcases List.mem_append.1 hx with h1 | h1
  · exact h x h1
  · obtain rfl := List.mem_singleton.1 h1; exact ha
theorem p3 (n1 n2 : Bool) (C B : List Int) (hC : bytes C) (hB : bytes B) : Pure En 3 [.one (.sl n1 (C.map bT)), .one (.sl n2 (B.map bT))] [.one (.bool true)] := by
  have hl1 : (C.map bT).length = C.length := List.length_map ..
  have hl2 : (B.map bT).length = B.length := List.length_map ..
  refine Pure.of_wp Tryd.func3 rfl (Nat.le_of_ble_eq_true rfl) ?_
  refine wSeq ?_
  refine wRegion ?_
  refine raB rfl rfl rfl rfl rfl ?_
  refine rNil ?_
  refine qSeq ?_
  refine wSeq ?_
  refine wSeq ?_
  refine wRegion ?_
  refine rmL rfl rfl rfl rfl rfl ?_
  refine rll rfl rfl rfl rfl rfl rfl ?_
  refine rgt rfl rfl rfl rfl rfl rfl ?_ ?_ <;> intro h1_2
  · refine rmB rfl rfl rfl rfl rfl ?_
    refine rSkip rfl rfl rfl ?_
    refine rSkip rfl rfl rfl ?_
    refine rSkip rfl rfl rfl ?_
    refine rpk (e := true) rfl rfl rfl rfl rfl rfl ?_
    refine rNil ?_
    refine qSeq ?_
    refine wT rfl ?_
    refine wSeq ?_
    refine wRegion ?_
    refine raB rfl rfl rfl rfl rfl ?_
    refine rNil ?_
    refine qSeq ?_
    refine wRet ?_
    refine qSeqR ?_
    exact fin rfl rfl
  · refine rmB rfl rfl rfl rfl rfl ?_
    refine rmL rfl rfl rfl rfl rfl ?_
    refine rll rfl rfl rfl rfl rfl rfl ?_
    refine rgt rfl rfl rfl rfl rfl rfl ?_ ?_ <;> intro h1_6
    · refine rpk (e := true) rfl rfl rfl rfl rfl rfl ?_
      refine rNil ?_
      refine qSeq ?_
      refine wT rfl ?_
      refine wSeq ?_
      refine wRegion ?_
      refine raB rfl rfl rfl rfl rfl ?_
      refine rNil ?_
      refine qSeq ?_
      refine wRet ?_
      refine qSeqR ?_
      exact fin rfl rfl
    · refine rpk (e := false) rfl rfl rfl rfl rfl rfl ?_
      refine rNil ?_
      refine qSeq ?_
      refine wF rfl ?_
      refine wSkip ?_
      refine qSeq ?_
      refine wSeq ?_
      refine wRegion ?_
      refine rmL rfl rfl rfl rfl rfl ?_
      refine rclX (p5 n2 B hB (by omega)) rfl rfl rfl rfl rfl rfl ?_
      rintro r5 h3_1
      try dsimp only at h3_1
      refine rcl (p4U r5 h3_1) rfl rfl rfl rfl rfl rfl ?_
      refine rmT rfl rfl rfl rfl rfl ?_
      refine rex rfl rfl rfl rfl rfl rfl ?_
      refine rex rfl rfl rfl rfl rfl rfl ?_
      refine ral rfl rfl rfl rfl rfl rfl ?_
      (apply rst (u := .agg [.int _ _, .int _ _, .bool _, .int _ _, .int _ _, .int _ _, .int _ _, .str _, _, _]) rfl rfl rfl; (first | ((simp (disch := omega) only [↓app0, ↓appC, ↓updS, ↓updN, ↓hpS, ↓hpN]) <;> first | rfl | assumption) | assumption | rfl); rfl; rfl; rfl; rfl; rfl; (exact Nat.le_of_ble_eq_true rfl); rfl; rfl; rfl)
      refine raI rfl rfl rfl rfl rfl ?_
      refine rNil ?_
      refine qSeq ?_
      refine wSeq ?_
      refine wSeq ?_
      refine wRegion ?_
      refine rmI rfl rfl rfl rfl rfl ?_
      refine rne rfl rfl rfl rfl rfl rfl (fun h => absurd h (by decide)) ?_
      intro h4_1
      refine rNil ?_
      refine qSeq ?_
      refine wF rfl ?_
      refine wSkip ?_
      refine qSeq ?_
      refine wSeq ?_
      refine wSeq ?_
      refine wRegion ?_
      refine raI rfl rfl rfl rfl rfl ?_
      refine rNil ?_
      refine qSeq ?_
      refine wBlock ?_
      refine wLoop ?_
      refine loopGo (fun (a : Nat × List An × V × Nat) => [.sl false n1 (C.map bT), .sl false n2 (B.map bT), .unk, .unk, .unk, .ptr 0 0 0, .unk, .int .i64 a.1]) (fun (a : Nat × List An × V × Nat) => hp [(0, ⟨[(Cl.mk r5 a.1 false Rq0 [] a.2.1).V .nsl a.2.2.1], 10, 28⟩)]) (fun (a : Nat × List An × V × Nat) => a.2.2.2) (fun (a : Nat × List An × V × Nat) => a.1 ≤ 3 ∧ 1 ≤ a.2.2.2 ∧ a.2.1.length = a.1 ∧ (∀ x ∈ a.2.1, x.OK) ∧ ((a.2.1 = [] ∧ a.2.2.1 = .nsl) ∨ a.2.2.1 = .sl true true (a.2.1.map An.T))) (fun (a : Nat × List An × V × Nat) => 3 - a.1) (0, [], .nsl, 1) ?_ ?_ ?_ ?_ ?_
      · exact ⟨Nat.zero_le _, Nat.le_refl _, rfl, fun x hx => absurd hx List.not_mem_nil, .inl ⟨rfl, rfl⟩⟩
      · (repeat first | exact LE.nil _ | refine LE.unk _ _ ?_ | refine LE.eq _ _ _ rfl ?_)
      · (repeat first | exact lessH0 | (refine lessHc ?_ ?_; (first | (first | ((simp (disch := omega) only [↓app0, ↓appC, ↓updS, ↓updN, ↓hpS, ↓hpN]) <;> first | rfl | assumption) | assumption | rfl) | fail)))
      · exact Nat.le_refl _
      intro ⟨i, acc, S2, N⟩ hI ih
      dsimp only at hI ⊢
      have h5 : 0 ≤ r5 ∧ r5 ≤ 255 := h3_1
      have hN := hI.2.1
      have hi3 := hI.1
      rcases hI.2.2.2.2 with hs | hs
      · skip
        obtain ⟨rfl, rfl⟩ := hs
        have hlen : ([] : List An).length = i := hI.2.2.1
        have hall : ∀ x ∈ ([] : List An), x.OK := hI.2.2.2.1
        refine lStep ?_
        refine wSeq ?_
        refine wSeq ?_
        refine wRegion ?_
        refine rmI rfl rfl rfl rfl rfl ?_
        refine rlt rfl rfl rfl rfl rfl rfl ?_ ?_ <;> intro h7_1
        · refine rNil ?_
          refine qSeq ?_
          refine wT rfl ?_
          refine wSkip ?_
          refine qSeq ?_
          refine wSeq ?_
          refine wBlock ?_
          refine wSeq ?_
          refine wRegion ?_
          refine rmI rfl rfl rfl rfl rfl ?_
          refine rcv rfl rfl rfl rfl rfl rfl rfl ?_
          refine rbs (es := [[.int _ _]]) rfl rfl rfl rfl (Nat.succ_ne_zero _) (Nat.le_of_ble_eq_true rfl) rfl rfl rfl rfl rfl ?_
          refine rmL rfl rfl rfl rfl rfl ?_
          (apply rap (s' := 1) rfl rfl; ((simp (disch := omega) only [↓app0, ↓appC, ↓updS, ↓updN, ↓hpS, ↓hpN]) <;> first | rfl | assumption); rfl; rfl; rfl; rfl; rfl; exact (Nat.succ_ne_zero _); rfl; exact (lenB C); ((simp only [List.length_map]); omega); ((simp only [List.length_map]); omega); rfl; rfl; rfl)
          apply rclSX [N + 1] (p6 true (IntKind.u8.wrap i :: C) (hC.cons _) (by rw [List.length_cons]; omega)) rfl rfl rfl
          · exact SnapL.cons _ _ _ _ (.one _ _ (snapView (b := ⟨(IntKind.u8.wrap i :: C).map bV, 1, 5⟩) ((IntKind.u8.wrap i :: C).map bT) (List.mem_singleton.2 rfl) (by (simp (disch := omega) only [↓app0, ↓appC, ↓updS, ↓updN, ↓hpS, ↓hpN]) <;> exact congrArg (fun z => some (Blk.mk z 1 5)) (rowsB (IntKind.u8.wrap i) C)) (rowsB2 _).symm (by simp [Nat.add_comm]))) SnapL.nil
          · rfl
          · rfl
          · rfl
          rintro rq h9_5
          try dsimp only at h9_5
          refine ral rfl rfl rfl rfl rfl rfl ?_
          (apply rst (u := .agg [.int _ _, .int _ _, .int _ _, .int _ _, .str _]) rfl rfl rfl; (first | ((simp (disch := omega) only [↓app0, ↓appC, ↓updS, ↓updN, ↓hpS, ↓hpN]) <;> first | rfl | assumption) | assumption | rfl); rfl; rfl; rfl; rfl; rfl; (exact Nat.le_of_ble_eq_true rfl); rfl; rfl; rfl)
          refine rNil ?_
          refine qSeq ?_
          refine wSeq ?_
          refine wRegion ?_
          (apply rlr (vs := [.int _ _, .int _ _, .bool _, .int _ _, .int _ _, .int _ _, .int _ _, .str _, _, _]) rfl rfl; (first | ((simp (disch := omega) only [↓app0, ↓appC, ↓updS, ↓updN, ↓hpS, ↓hpN]) <;> first | rfl | assumption) | assumption | rfl); rfl; rfl; (exact Nat.le_of_ble_eq_true rfl); rfl; rfl; rfl; rfl)
          refine rfa (off := 2) (s := 1) (r := false) rfl rfl rfl (Nat.succ_ne_zero _) rfl rfl rfl ?_
          (apply rlc (v := .int _ _) rfl rfl; (first | ((simp (disch := omega) only [↓app0, ↓appC, ↓updS, ↓updN, ↓hpS, ↓hpN]) <;> first | rfl | assumption) | assumption | rfl); rfl; rfl; rfl; rfl; rfl; rfl)
          refine rfa (off := 4) (s := 1) (r := false) rfl rfl rfl (Nat.succ_ne_zero _) rfl rfl rfl ?_
          (apply rlc (v := .str _) rfl rfl; (first | ((simp (disch := omega) only [↓app0, ↓appC, ↓updS, ↓updN, ↓hpS, ↓hpN]) <;> first | rfl | assumption) | assumption | rfl); rfl; rfl; rfl; rfl; rfl; rfl)
          refine rfa (off := 3) (s := 1) (r := false) rfl rfl rfl (Nat.succ_ne_zero _) rfl rfl rfl ?_
          (apply rlc (v := .int _ _) rfl rfl; (first | ((simp (disch := omega) only [↓app0, ↓appC, ↓updS, ↓updN, ↓hpS, ↓hpN]) <;> first | rfl | assumption) | assumption | rfl); rfl; rfl; rfl; rfl; rfl; rfl)
          refine rcl (p7Nok 4 (Cl.mk r5 i false Rq0 [] []) rq.kd rq.le rq.nm (idleOK h5 (by omega) hlen hall) rfl rfl (Nat.zero_le _) (nmSz h9_5) rfl ⟨by dsimp only; omega, by dsimp only; omega⟩ (rqOK h9_5 h5 (by omega))) rfl rfl rfl rfl rfl rfl ?_
          refine rmT rfl rfl rfl rfl rfl ?_
          refine rex rfl rfl rfl rfl rfl rfl ?_
          refine rex rfl rfl rfl rfl rfl rfl ?_
          refine ral rfl rfl rfl rfl rfl rfl ?_
          (apply rst (u := .agg [.int _ _, .int _ _, .bool _, .int _ _, .int _ _, .int _ _, .int _ _, .str _, _, _]) rfl rfl rfl; (first | ((simp (disch := omega) only [↓app0, ↓appC, ↓updS, ↓updN, ↓hpS, ↓hpN]) <;> first | rfl | assumption) | assumption | rfl); rfl; rfl; rfl; rfl; rfl; (exact Nat.le_of_ble_eq_true rfl); rfl; rfl; rfl)
          refine raI rfl rfl rfl rfl rfl ?_
          refine rNil ?_
          refine qSeq ?_
          refine wSeq ?_
          refine wRegion ?_
          (apply rlr (vs := [.int _ _, .int _ _, .bool _, .int _ _, .int _ _, .int _ _, .int _ _, .str _, _, _]) rfl rfl; (first | ((simp (disch := omega) only [↓app0, ↓appC, ↓updS, ↓updN, ↓hpS, ↓hpN]) <;> first | rfl | assumption) | assumption | rfl); rfl; rfl; (exact Nat.le_of_ble_eq_true rfl); rfl; rfl; rfl; rfl)
          refine rfa (off := 2) (s := 1) (r := false) rfl rfl rfl (Nat.succ_ne_zero _) rfl rfl rfl ?_
          (apply rlc (v := .int _ _) rfl rfl; (first | ((simp (disch := omega) only [↓app0, ↓appC, ↓updS, ↓updN, ↓hpS, ↓hpN]) <;> first | rfl | assumption) | assumption | rfl); rfl; rfl; rfl; rfl; rfl; rfl)
          refine rfa (off := 4) (s := 1) (r := false) rfl rfl rfl (Nat.succ_ne_zero _) rfl rfl rfl ?_
          (apply rlc (v := .str _) rfl rfl; (first | ((simp (disch := omega) only [↓app0, ↓appC, ↓updS, ↓updN, ↓hpS, ↓hpN]) <;> first | rfl | assumption) | assumption | rfl); rfl; rfl; rfl; rfl; rfl; rfl)
          refine rfa (off := 3) (s := 1) (r := false) rfl rfl rfl (Nat.succ_ne_zero _) rfl rfl rfl ?_
          (apply rlc (v := .int _ _) rfl rfl; (first | ((simp (disch := omega) only [↓app0, ↓appC, ↓updS, ↓updN, ↓hpS, ↓hpN]) <;> first | rfl | assumption) | assumption | rfl); rfl; rfl; rfl; rfl; rfl; rfl)
          refine rcl (p7Nbusy 4 (CK r5 i rq [] []) rq.kd rq.le rq.nm (busyOK h9_5 h5 (by omega) hlen hall (Nat.zero_le _) (fun r hr => absurd hr List.not_mem_nil) rfl) rfl rfl (Nat.zero_le _) (nmSz h9_5) rfl ⟨by unfold CK; dsimp only; omega, by unfold CK; dsimp only; omega⟩) rfl rfl rfl rfl rfl rfl ?_
          refine rmT rfl rfl rfl rfl rfl ?_
          refine rex rfl rfl rfl rfl rfl rfl ?_
          refine rex rfl rfl rfl rfl rfl rfl ?_
          refine ral rfl rfl rfl rfl rfl rfl ?_
          (apply rst (u := .agg [.int _ _, .int _ _, .bool _, .int _ _, .int _ _, .int _ _, .int _ _, .str _, _, _]) rfl rfl rfl; (first | ((simp (disch := omega) only [↓app0, ↓appC, ↓updS, ↓updN, ↓hpS, ↓hpN]) <;> first | rfl | assumption) | assumption | rfl); rfl; rfl; rfl; rfl; rfl; (exact Nat.le_of_ble_eq_true rfl); rfl; rfl; rfl)
          refine raI rfl rfl rfl rfl rfl ?_
          refine rNil ?_
          refine qSeq ?_
          refine wSeq ?_
          refine wSeq ?_
          refine wRegion ?_
          refine rmI rfl rfl rfl rfl rfl ?_
          refine rne rfl rfl rfl rfl rfl rfl (fun h => absurd h (by decide)) ?_
          intro h12_1
          refine rmB rfl rfl rfl rfl rfl ?_
          refine rmI rfl rfl rfl rfl rfl ?_
          refine rne rfl rfl rfl rfl rfl rfl (fun h => absurd h (by decide)) ?_
          intro h12_4
          refine rpk (e := false) rfl rfl rfl rfl rfl rfl ?_
          refine rmB rfl rfl rfl rfl rfl ?_
          refine rfa (off := 2) (s := 1) (r := false) rfl rfl rfl (Nat.succ_ne_zero _) rfl rfl rfl ?_
          (apply rlc (v := .bool true) rfl rfl; (first | ((simp (disch := omega) only [↓app0, ↓appC, ↓updS, ↓updN, ↓hpS, ↓hpN]) <;> first | rfl | assumption) | assumption | rfl); rfl; rfl; rfl; rfl; rfl; rfl)
          refine rnot (c := true) rfl rfl rfl rfl rfl ?_
          refine rpk (e := false) rfl rfl rfl rfl rfl rfl ?_
          refine rmB rfl rfl rfl rfl rfl ?_
          refine rfa (off := 1) (s := 1) (r := false) rfl rfl rfl (Nat.succ_ne_zero _) rfl rfl rfl ?_
          (apply rlc (v := .int _ _) rfl rfl; (first | ((simp (disch := omega) only [↓app0, ↓appC, ↓updS, ↓updN, ↓hpS, ↓hpN]) <;> first | rfl | assumption) | assumption | rfl); rfl; rfl; rfl; rfl; rfl; rfl)
          refine rmI rfl rfl rfl rfl rfl ?_
          refine raddF rfl rfl rfl ?_ ?_ rfl rfl rfl ?_
          · (first | omega | (have hq := h15_5.2.1; omega))
          · (first | omega | (have hq := h15_5.2.1; omega))
          refine rne rfl rfl rfl rfl rfl rfl (fun h => absurd h (by omega)) ?_
          intro h12_16
          refine rpk (e := false) rfl rfl rfl rfl rfl rfl ?_
          refine rmB rfl rfl rfl rfl rfl ?_
          refine rfa (off := 3) (s := 5) (r := true) rfl rfl rfl (Nat.succ_ne_zero _) rfl rfl rfl ?_
          refine rfa (off := 4) (s := 1) (r := false) rfl rfl rfl (Nat.succ_ne_zero _) rfl rfl rfl ?_
          (apply rlc (v := .str _) rfl rfl; (first | ((simp (disch := omega) only [↓app0, ↓appC, ↓updS, ↓updN, ↓hpS, ↓hpN]) <;> first | rfl | assumption) | assumption | rfl); rfl; rfl; rfl; rfl; rfl; rfl)
          refine rfa (off := 4) (s := 1) (r := false) rfl rfl rfl (Nat.succ_ne_zero _) rfl rfl rfl ?_
          (apply rlc (v := .str _) rfl rfl; (first | ((simp (disch := omega) only [↓app0, ↓appC, ↓updS, ↓updN, ↓hpS, ↓hpN]) <;> first | rfl | assumption) | assumption | rfl); rfl; rfl; rfl; rfl; rfl; rfl)
          refine rsne rfl rfl rfl rfl rfl rfl (fun h => absurd h (fun h => h rfl)) ?_
          intro h12_24
          refine rpk (e := false) rfl rfl rfl rfl rfl rfl ?_
          refine rNil ?_
          refine qSeq ?_
          refine wF rfl ?_
          refine wSkip ?_
          refine qSeq ?_
          refine wSeq ?_
          refine wRegion ?_
          (apply rlr (vs := [.int _ _, .int _ _, .bool _, .int _ _, .int _ _, .int _ _, .int _ _, .str _, _, _]) rfl rfl; (first | ((simp (disch := omega) only [↓app0, ↓appC, ↓updS, ↓updN, ↓hpS, ↓hpN]) <;> first | rfl | assumption) | assumption | rfl); rfl; rfl; (exact Nat.le_of_ble_eq_true rfl); rfl; rfl; rfl; rfl)
          (apply rst (u := .agg [.int _ _, .int _ _, .bool _, .int _ _, .int _ _, .int _ _, .int _ _, .str _, _, _]) rfl rfl rfl; (first | ((simp (disch := omega) only [↓app0, ↓appC, ↓updS, ↓updN, ↓hpS, ↓hpN]) <;> first | rfl | assumption) | assumption | rfl); rfl; rfl; rfl; rfl; rfl; (exact Nat.le_of_ble_eq_true rfl); rfl; rfl; rfl)
          refine rNil ?_
          refine qSeq ?_
          refine wSeq ?_
          refine wRegion ?_
          refine rmI rfl rfl rfl rfl rfl ?_
          refine rcv rfl rfl rfl rfl rfl rfl rfl ?_
          refine rbs (es := [[.int _ _]]) rfl rfl rfl rfl (Nat.succ_ne_zero _) (Nat.le_of_ble_eq_true rfl) rfl rfl rfl rfl rfl ?_
          refine rmL rfl rfl rfl rfl rfl ?_
          (apply rap (s' := 1) rfl rfl; ((simp (disch := omega) only [↓app0, ↓appC, ↓updS, ↓updN, ↓hpS, ↓hpN]) <;> first | rfl | assumption); rfl; rfl; rfl; rfl; rfl; exact (Nat.succ_ne_zero _); rfl; exact (lenB B); ((simp only [List.length_map]); omega); ((simp only [List.length_map]); omega); rfl; rfl; rfl)
          apply rclSX [N + 6] (p8 true (IntKind.u8.wrap i :: B) (hB.cons _) (by rw [List.length_cons]; omega)) rfl rfl rfl
          · exact SnapL.cons _ _ _ _ (.one _ _ (snapView (b := ⟨(IntKind.u8.wrap i :: B).map bV, 1, 5⟩) ((IntKind.u8.wrap i :: B).map bT) (List.mem_singleton.2 rfl) (by (simp (disch := omega) only [↓app0, ↓appC, ↓updS, ↓updN, ↓hpS, ↓hpN]) <;> exact congrArg (fun z => some (Blk.mk z 1 5)) (rowsB (IntKind.u8.wrap i) B)) (rowsB2 _).symm (by simp [Nat.add_comm]))) SnapL.nil
          · rfl
          · rfl
          · rfl
          rintro an h15_5
          try dsimp only at h15_5
          refine ral rfl rfl rfl rfl rfl rfl ?_
          (apply rst (u := .agg [.int _ _, .int _ _, .int _ _, .int _ _]) rfl rfl rfl; (first | ((simp (disch := omega) only [↓app0, ↓appC, ↓updS, ↓updN, ↓hpS, ↓hpN]) <;> first | rfl | assumption) | assumption | rfl); rfl; rfl; rfl; rfl; rfl; (exact Nat.le_of_ble_eq_true rfl); rfl; rfl; rfl)
          refine rNil ?_
          refine qSeq ?_
          refine wSeq ?_
          refine wRegion ?_
          (apply rlr (vs := [.int _ _, .int _ _, .int _ _, .int _ _]) rfl rfl; (first | ((simp (disch := omega) only [↓app0, ↓appC, ↓updS, ↓updN, ↓hpS, ↓hpN]) <;> first | rfl | assumption) | assumption | rfl); rfl; rfl; (exact Nat.le_of_ble_eq_true rfl); rfl; rfl; rfl; rfl)
          refine ral rfl rfl rfl rfl rfl rfl ?_
          (apply rst (u := .agg [.int _ _, .int _ _, .int _ _, .int _ _]) rfl rfl rfl; (first | ((simp (disch := omega) only [↓app0, ↓appC, ↓updS, ↓updN, ↓hpS, ↓hpN]) <;> first | rfl | assumption) | assumption | rfl); rfl; rfl; rfl; rfl; rfl; (exact Nat.le_of_ble_eq_true rfl); rfl; rfl; rfl)
          refine rNil ?_
          refine qSeq ?_
          refine wSeq ?_
          refine wRegion ?_
          refine rfa (off := 1) (s := 1) (r := false) rfl rfl rfl (Nat.succ_ne_zero _) rfl rfl rfl ?_
          (apply rlc (v := .int _ _) rfl rfl; (first | ((simp (disch := omega) only [↓app0, ↓appC, ↓updS, ↓updN, ↓hpS, ↓hpN]) <;> first | rfl | assumption) | assumption | rfl); rfl; rfl; rfl; rfl; rfl; rfl)
          refine raddF rfl rfl rfl ?_ ?_ rfl rfl rfl ?_
          · (first | omega | (have hq := h15_5.2.1; omega))
          · (first | omega | (have hq := h15_5.2.1; omega))
          refine rfa (off := 1) (s := 1) (r := false) rfl rfl rfl (Nat.succ_ne_zero _) rfl rfl rfl ?_
          (apply rst (u := .int _ _) rfl rfl rfl; (first | ((simp (disch := omega) only [↓app0, ↓appC, ↓updS, ↓updN, ↓hpS, ↓hpN]) <;> first | rfl | assumption) | assumption | rfl); rfl; rfl; rfl; rfl; rfl; (exact Nat.le_of_ble_eq_true rfl); rfl; rfl; rfl)
          refine rNil ?_
          refine qSeq ?_
          refine wSeq ?_
          refine wSeq ?_
          refine wRegion ?_
          refine raI rfl rfl rfl rfl rfl ?_
          refine rNil ?_
          refine qSeq ?_
          refine wBlock ?_
          refine wLoop ?_
          refine lStep ?_
          refine wSeq ?_
          refine wSeq ?_
          refine wRegion ?_
          refine rmI rfl rfl rfl rfl rfl ?_
          refine rlt rfl rfl rfl rfl rfl rfl ?_ (fun h => absurd (by decide) h)
          intro h19_1
          refine rNil ?_
          refine qSeq ?_
          refine wT rfl ?_
          refine wSkip ?_
          refine qSeq ?_
          refine wSeq ?_
          refine wBlock ?_
          refine wSeq ?_
          refine wRegion ?_
          refine rbs (es := [[.int _ _], [.int _ _], [.int _ _], [.int _ _]]) rfl rfl rfl rfl (Nat.succ_ne_zero _) (Nat.le_of_ble_eq_true rfl) rfl rfl rfl rfl rfl ?_
          refine rmI rfl rfl rfl rfl rfl ?_
          (apply rixv rfl rfl rfl rfl; (first | ((simp (disch := omega) only [↓app0, ↓appC, ↓updS, ↓updN, ↓hpS, ↓hpN]) <;> first | rfl | assumption) | assumption | rfl); rfl; (first | omega | assumption | (focus (simp; omega))); (first | omega | assumption | (focus (simp; omega))); rfl; rfl; rfl)
          (apply rlc (v := .int _ _) rfl rfl; (first | ((simp (disch := omega) only [↓app0, ↓appC, ↓updS, ↓updN, ↓hpS, ↓hpN]) <;> first | rfl | assumption) | assumption | rfl); rfl; rfl; rfl; rfl; rfl; rfl)
          refine raI rfl rfl rfl rfl rfl ?_
          refine rNil ?_
          refine qSeq ?_
          refine wSeq ?_
          refine wRegion ?_
          (apply rlr (vs := [.int _ _, .int _ _, .int _ _, .int _ _]) rfl rfl; (first | ((simp (disch := omega) only [↓app0, ↓appC, ↓updS, ↓updN, ↓hpS, ↓hpN]) <;> first | rfl | assumption) | assumption | rfl); rfl; rfl; (exact Nat.le_of_ble_eq_true rfl); rfl; rfl; rfl; rfl)
          refine ral rfl rfl rfl rfl rfl rfl ?_
          (apply rst (u := .agg [.int _ _, .int _ _, .int _ _, .int _ _]) rfl rfl rfl; (first | ((simp (disch := omega) only [↓app0, ↓appC, ↓updS, ↓updN, ↓hpS, ↓hpN]) <;> first | rfl | assumption) | assumption | rfl); rfl; rfl; rfl; rfl; rfl; (exact Nat.le_of_ble_eq_true rfl); rfl; rfl; rfl)
          refine rNil ?_
          refine qSeq ?_
          refine wSeq ?_
          refine wSeq ?_
          refine wRegion ?_
          refine rmI rfl rfl rfl rfl rfl ?_
          refine rlt rfl rfl rfl rfl rfl rfl ?_ (fun h => absurd (by decide) h)
          intro h23_1
          refine rNil ?_
          refine qSeq ?_
          refine wT rfl ?_
          refine wRegion ?_
          (apply rlr (vs := [.int _ _, .int _ _, .int _ _, .int _ _]) rfl rfl; (first | ((simp (disch := omega) only [↓app0, ↓appC, ↓updS, ↓updN, ↓hpS, ↓hpN]) <;> first | rfl | assumption) | assumption | rfl); rfl; rfl; (exact Nat.le_of_ble_eq_true rfl); rfl; rfl; rfl; rfl)
          (apply rst (u := .agg [.int _ _, .int _ _, .int _ _, .int _ _]) rfl rfl rfl; (first | ((simp (disch := omega) only [↓app0, ↓appC, ↓updS, ↓updN, ↓hpS, ↓hpN]) <;> first | rfl | assumption) | assumption | rfl); rfl; rfl; rfl; rfl; rfl; (exact Nat.le_of_ble_eq_true rfl); rfl; rfl; rfl)
          refine rNil ?_
          refine qSeq ?_
          refine wSeq ?_
          refine wRegion ?_
          refine rmI rfl rfl rfl rfl rfl ?_
          refine rfa (off := 0) (s := 1) (r := false) rfl rfl rfl (Nat.succ_ne_zero _) rfl rfl rfl ?_
          (apply rlc (v := .int _ _) rfl rfl; (first | ((simp (disch := omega) only [↓app0, ↓appC, ↓updS, ↓updN, ↓hpS, ↓hpN]) <;> first | rfl | assumption) | assumption | rfl); rfl; rfl; rfl; rfl; rfl; rfl)
          refine rfa (off := 1) (s := 1) (r := false) rfl rfl rfl (Nat.succ_ne_zero _) rfl rfl rfl ?_
          (apply rlc (v := .int _ _) rfl rfl; (first | ((simp (disch := omega) only [↓app0, ↓appC, ↓updS, ↓updN, ↓hpS, ↓hpN]) <;> first | rfl | assumption) | assumption | rfl); rfl; rfl; rfl; rfl; rfl; rfl)
          (apply rlr (vs := [.int _ _, .int _ _, .int _ _, .int _ _]) rfl rfl; (first | ((simp (disch := omega) only [↓app0, ↓appC, ↓updS, ↓updN, ↓hpS, ↓hpN]) <;> first | rfl | assumption) | assumption | rfl); rfl; rfl; (exact Nat.le_of_ble_eq_true rfl); rfl; rfl; rfl; rfl)
          refine rcl (p9 3 r5 ((i : Int) + 1) (lieA an) (rpOk (.inr (.inr rfl)) h5 (by omega) (lieOK h15_5))) rfl rfl rfl rfl rfl rfl ?_
          refine rmT rfl rfl rfl rfl rfl ?_
          refine rex rfl rfl rfl rfl rfl rfl ?_
          refine rex rfl rfl rfl rfl rfl rfl ?_
          refine ral rfl rfl rfl rfl rfl rfl ?_
          (apply rst (u := .agg [.int _ _, .int _ _, .int _ _, .int _ _, .int _ _, .int _ _, .int _ _, .str _]) rfl rfl rfl; (first | ((simp (disch := omega) only [↓app0, ↓appC, ↓updS, ↓updN, ↓hpS, ↓hpN]) <;> first | rfl | assumption) | assumption | rfl); rfl; rfl; rfl; rfl; rfl; (exact Nat.le_of_ble_eq_true rfl); rfl; rfl; rfl)
          refine raI rfl rfl rfl rfl rfl ?_
          refine rNil ?_
          refine qSeq ?_
          refine wSeq ?_
          refine wRegion ?_
          (apply rlr (vs := [.int _ _, .int _ _, .bool _, .int _ _, .int _ _, .int _ _, .int _ _, .str _, _, _]) rfl rfl; (first | ((simp (disch := omega) only [↓app0, ↓appC, ↓updS, ↓updN, ↓hpS, ↓hpN]) <;> first | rfl | assumption) | assumption | rfl); rfl; rfl; (exact Nat.le_of_ble_eq_true rfl); rfl; rfl; rfl; rfl)
          (apply rlr (vs := [.int _ _, .int _ _, .int _ _, .int _ _, .int _ _, .int _ _, .int _ _, .str _]) rfl rfl; (first | ((simp (disch := omega) only [↓app0, ↓appC, ↓updS, ↓updN, ↓hpS, ↓hpN]) <;> first | rfl | assumption) | assumption | rfl); rfl; rfl; (exact Nat.le_of_ble_eq_true rfl); rfl; rfl; rfl; rfl)
          refine rcl (p10NNu 4 (CK r5 i rq [] []) (RP 3 r5 ((i : Int) + 1) (lieA an)) (facts (acc := []) h9_5 h15_5 h5 (by omega) hlen hall).c0 rfl (rpOK (.inr (.inr rfl)) h5 (by omega) (lieOK h15_5)) (Nat.le_of_ble_eq_true rfl) (Nat.zero_le _) rfl rfl (facts (acc := []) h9_5 h15_5 h5 (by omega) hlen hall).d1) rfl rfl rfl rfl rfl rfl ?_
          refine rmT rfl rfl rfl rfl rfl ?_
          refine rex rfl rfl rfl rfl rfl rfl ?_
          refine rex rfl rfl rfl rfl rfl rfl ?_
          refine ral rfl rfl rfl rfl rfl rfl ?_
          (apply rst (u := .agg [.int _ _, .int _ _, .bool _, .int _ _, .int _ _, .int _ _, .int _ _, .str _, _, _]) rfl rfl rfl; (first | ((simp (disch := omega) only [↓app0, ↓appC, ↓updS, ↓updN, ↓hpS, ↓hpN]) <;> first | rfl | assumption) | assumption | rfl); rfl; rfl; rfl; rfl; rfl; (exact Nat.le_of_ble_eq_true rfl); rfl; rfl; rfl)
          refine raI rfl rfl rfl rfl rfl ?_
          refine rNil ?_
          refine qSeq ?_
          refine wSeq ?_
          refine wSeq ?_
          refine wRegion ?_
          refine rmI rfl rfl rfl rfl rfl ?_
          refine rne rfl rfl rfl rfl rfl rfl (fun h => absurd h (by decide)) ?_
          intro h27_1
          refine rmB rfl rfl rfl rfl rfl ?_
          refine rmI rfl rfl rfl rfl rfl ?_
          refine rne rfl rfl rfl rfl rfl rfl (fun h => absurd h (by decide)) ?_
          intro h27_4
          refine rpk (e := false) rfl rfl rfl rfl rfl rfl ?_
          refine rmB rfl rfl rfl rfl rfl ?_
          (apply rlr (vs := [.int _ _, .int _ _, .bool _, .int _ _, .int _ _, .int _ _, .int _ _, .str _, _, _]) rfl rfl; (first | ((simp (disch := omega) only [↓app0, ↓appC, ↓updS, ↓updN, ↓hpS, ↓hpN]) <;> first | rfl | assumption) | assumption | rfl); rfl; rfl; (exact Nat.le_of_ble_eq_true rfl); rfl; rfl; rfl; rfl)
          refine rcl (p11U 4 (CK r5 i rq [] [RP 3 r5 ((i : Int) + 1) (lieA an)]) (.sl true ([RP 3 r5 ((i : Int) + 1) (lieA an)].map Rp.T)) (.nsl) true false (.refl _) (twN An.T rfl) (facts (acc := []) h9_5 h15_5 h5 (by omega) hlen hall).c1 (Nat.zero_le _)) rfl rfl rfl rfl rfl rfl ?_
          refine rnot (c := true) rfl rfl rfl rfl rfl ?_
          refine rpk (e := false) rfl rfl rfl rfl rfl rfl ?_
          refine rmB rfl rfl rfl rfl rfl ?_
          refine rfa (off := 2) (s := 1) (r := false) rfl rfl rfl (Nat.succ_ne_zero _) rfl rfl rfl ?_
          (apply rlc (v := .bool true) rfl rfl; (first | ((simp (disch := omega) only [↓app0, ↓appC, ↓updS, ↓updN, ↓hpS, ↓hpN]) <;> first | rfl | assumption) | assumption | rfl); rfl; rfl; rfl; rfl; rfl; rfl)
          refine rmI rfl rfl rfl rfl rfl ?_
          refine rlt rfl rfl rfl rfl rfl rfl ?_ (fun h => absurd (by decide) h)
          intro h27_15
          refine rbne (c := true) (e := true) rfl rfl rfl rfl rfl rfl rfl ?_
          refine rpk (e := false) rfl rfl rfl rfl rfl rfl ?_
          refine rNil ?_
          refine qSeq ?_
          refine wF rfl ?_
          refine wSkip ?_
          refine qSeq ?_
          refine wRegion ?_
          (apply rlr (vs := [.int _ _, .int _ _, .bool _, .int _ _, .int _ _, .int _ _, .int _ _, .str _, _, _]) rfl rfl; (first | ((simp (disch := omega) only [↓app0, ↓appC, ↓updS, ↓updN, ↓hpS, ↓hpN]) <;> first | rfl | assumption) | assumption | rfl); rfl; rfl; (exact Nat.le_of_ble_eq_true rfl); rfl; rfl; rfl; rfl)
          (apply rst (u := .agg [.int _ _, .int _ _, .bool _, .int _ _, .int _ _, .int _ _, .int _ _, .str _, _, _]) rfl rfl rfl; (first | ((simp (disch := omega) only [↓app0, ↓appC, ↓updS, ↓updN, ↓hpS, ↓hpN]) <;> first | rfl | assumption) | assumption | rfl); rfl; rfl; rfl; rfl; rfl; (exact Nat.le_of_ble_eq_true rfl); rfl; rfl; rfl)
          refine rNil ?_
          refine qBlock ?_
          refine qSeq ?_
          refine wRegion ?_
          refine rmI rfl rfl rfl rfl rfl ?_
          refine raddF rfl rfl rfl ?_ ?_ rfl rfl rfl ?_
          · (first | omega | (have hq := h15_5.2.1; omega))
          · (first | omega | (have hq := h15_5.2.1; omega))
          refine raI rfl rfl rfl rfl rfl ?_
          refine rNil ?_
          refine qLoop ?_
          refine lStep ?_
          refine wSeq ?_
          refine wSeq ?_
          refine wRegion ?_
          refine rmI rfl rfl rfl rfl rfl ?_
          refine rlt rfl rfl rfl rfl rfl rfl ?_ (fun h => absurd (by decide) h)
          intro h19_1
          refine rNil ?_
          refine qSeq ?_
          refine wT rfl ?_
          refine wSkip ?_
          refine qSeq ?_
          refine wSeq ?_
          refine wBlock ?_
          refine wSeq ?_
          refine wRegion ?_
          refine rbs (es := [[.int _ _], [.int _ _], [.int _ _], [.int _ _]]) rfl rfl rfl rfl (Nat.succ_ne_zero _) (Nat.le_of_ble_eq_true rfl) rfl rfl rfl rfl rfl ?_
          refine rmI rfl rfl rfl rfl rfl ?_
          (apply rixv rfl rfl rfl rfl; (first | ((simp (disch := omega) only [↓app0, ↓appC, ↓updS, ↓updN, ↓hpS, ↓hpN]) <;> first | rfl | assumption) | assumption | rfl); rfl; (first | omega | assumption | (focus (simp; omega))); (first | omega | assumption | (focus (simp; omega))); rfl; rfl; rfl)
          (apply rlc (v := .int _ _) rfl rfl; (first | ((simp (disch := omega) only [↓app0, ↓appC, ↓updS, ↓updN, ↓hpS, ↓hpN]) <;> first | rfl | assumption) | assumption | rfl); rfl; rfl; rfl; rfl; rfl; rfl)
          refine raI rfl rfl rfl rfl rfl ?_
          refine rNil ?_
          refine qSeq ?_
          refine wSeq ?_
          refine wRegion ?_
          (apply rlr (vs := [.int _ _, .int _ _, .int _ _, .int _ _]) rfl rfl; (first | ((simp (disch := omega) only [↓app0, ↓appC, ↓updS, ↓updN, ↓hpS, ↓hpN]) <;> first | rfl | assumption) | assumption | rfl); rfl; rfl; (exact Nat.le_of_ble_eq_true rfl); rfl; rfl; rfl; rfl)
          refine ral rfl rfl rfl rfl rfl rfl ?_
          (apply rst (u := .agg [.int _ _, .int _ _, .int _ _, .int _ _]) rfl rfl rfl; (first | ((simp (disch := omega) only [↓app0, ↓appC, ↓updS, ↓updN, ↓hpS, ↓hpN]) <;> first | rfl | assumption) | assumption | rfl); rfl; rfl; rfl; rfl; rfl; (exact Nat.le_of_ble_eq_true rfl); rfl; rfl; rfl)
          refine rNil ?_
          refine qSeq ?_
          refine wSeq ?_
          refine wSeq ?_
          refine wRegion ?_
          refine rmI rfl rfl rfl rfl rfl ?_
          refine rlt rfl rfl rfl rfl rfl rfl ?_ (fun h => absurd (by decide) h)
          intro h23_1
          refine rNil ?_
          refine qSeq ?_
          refine wT rfl ?_
          refine wRegion ?_
          (apply rlr (vs := [.int _ _, .int _ _, .int _ _, .int _ _]) rfl rfl; (first | ((simp (disch := omega) only [↓app0, ↓appC, ↓updS, ↓updN, ↓hpS, ↓hpN]) <;> first | rfl | assumption) | assumption | rfl); rfl; rfl; (exact Nat.le_of_ble_eq_true rfl); rfl; rfl; rfl; rfl)
          (apply rst (u := .agg [.int _ _, .int _ _, .int _ _, .int _ _]) rfl rfl rfl; (first | ((simp (disch := omega) only [↓app0, ↓appC, ↓updS, ↓updN, ↓hpS, ↓hpN]) <;> first | rfl | assumption) | assumption | rfl); rfl; rfl; rfl; rfl; rfl; (exact Nat.le_of_ble_eq_true rfl); rfl; rfl; rfl)
          refine rNil ?_
          refine qSeq ?_
          refine wSeq ?_
          refine wRegion ?_
          refine rmI rfl rfl rfl rfl rfl ?_
          refine rfa (off := 0) (s := 1) (r := false) rfl rfl rfl (Nat.succ_ne_zero _) rfl rfl rfl ?_
          (apply rlc (v := .int _ _) rfl rfl; (first | ((simp (disch := omega) only [↓app0, ↓appC, ↓updS, ↓updN, ↓hpS, ↓hpN]) <;> first | rfl | assumption) | assumption | rfl); rfl; rfl; rfl; rfl; rfl; rfl)
          refine rfa (off := 1) (s := 1) (r := false) rfl rfl rfl (Nat.succ_ne_zero _) rfl rfl rfl ?_
          (apply rlc (v := .int _ _) rfl rfl; (first | ((simp (disch := omega) only [↓app0, ↓appC, ↓updS, ↓updN, ↓hpS, ↓hpN]) <;> first | rfl | assumption) | assumption | rfl); rfl; rfl; rfl; rfl; rfl; rfl)
          (apply rlr (vs := [.int _ _, .int _ _, .int _ _, .int _ _]) rfl rfl; (first | ((simp (disch := omega) only [↓app0, ↓appC, ↓updS, ↓updN, ↓hpS, ↓hpN]) <;> first | rfl | assumption) | assumption | rfl); rfl; rfl; (exact Nat.le_of_ble_eq_true rfl); rfl; rfl; rfl; rfl)
          refine rcl (p9 3 r5 ((i : Int) + 1) (lieA an) (rpOk (.inr (.inr rfl)) h5 (by omega) (lieOK h15_5))) rfl rfl rfl rfl rfl rfl ?_
          refine rmT rfl rfl rfl rfl rfl ?_
          refine rex rfl rfl rfl rfl rfl rfl ?_
          refine rex rfl rfl rfl rfl rfl rfl ?_
          refine ral rfl rfl rfl rfl rfl rfl ?_
          (apply rst (u := .agg [.int _ _, .int _ _, .int _ _, .int _ _, .int _ _, .int _ _, .int _ _, .str _]) rfl rfl rfl; (first | ((simp (disch := omega) only [↓app0, ↓appC, ↓updS, ↓updN, ↓hpS, ↓hpN]) <;> first | rfl | assumption) | assumption | rfl); rfl; rfl; rfl; rfl; rfl; (exact Nat.le_of_ble_eq_true rfl); rfl; rfl; rfl)
          refine raI rfl rfl rfl rfl rfl ?_
          refine rNil ?_
          refine qSeq ?_
          refine wSeq ?_
          refine wRegion ?_
          (apply rlr (vs := [.int _ _, .int _ _, .bool _, .int _ _, .int _ _, .int _ _, .int _ _, .str _, _, _]) rfl rfl; (first | ((simp (disch := omega) only [↓app0, ↓appC, ↓updS, ↓updN, ↓hpS, ↓hpN]) <;> first | rfl | assumption) | assumption | rfl); rfl; rfl; (exact Nat.le_of_ble_eq_true rfl); rfl; rfl; rfl; rfl)
          (apply rlr (vs := [.int _ _, .int _ _, .int _ _, .int _ _, .int _ _, .int _ _, .int _ _, .str _]) rfl rfl; (first | ((simp (disch := omega) only [↓app0, ↓appC, ↓updS, ↓updN, ↓hpS, ↓hpN]) <;> first | rfl | assumption) | assumption | rfl); rfl; rfl; (exact Nat.le_of_ble_eq_true rfl); rfl; rfl; rfl; rfl)
          refine rcl (p10VNu 4 (CK r5 i rq [] [RP 3 r5 ((i : Int) + 1) (lieA an)]) (RP 3 r5 ((i : Int) + 1) (lieA an)) (facts (acc := []) h9_5 h15_5 h5 (by omega) hlen hall).c1 rfl (rpOK (.inr (.inr rfl)) h5 (by omega) (lieOK h15_5)) (Nat.le_of_ble_eq_true rfl) (Nat.zero_le _) rfl (facts (acc := []) h9_5 h15_5 h5 (by omega) hlen hall).d2) rfl rfl rfl rfl rfl rfl ?_
          refine rmT rfl rfl rfl rfl rfl ?_
          refine rex rfl rfl rfl rfl rfl rfl ?_
          refine rex rfl rfl rfl rfl rfl rfl ?_
          refine ral rfl rfl rfl rfl rfl rfl ?_
          (apply rst (u := .agg [.int _ _, .int _ _, .bool _, .int _ _, .int _ _, .int _ _, .int _ _, .str _, _, _]) rfl rfl rfl; (first | ((simp (disch := omega) only [↓app0, ↓appC, ↓updS, ↓updN, ↓hpS, ↓hpN]) <;> first | rfl | assumption) | assumption | rfl); rfl; rfl; rfl; rfl; rfl; (exact Nat.le_of_ble_eq_true rfl); rfl; rfl; rfl)
          refine raI rfl rfl rfl rfl rfl ?_
          refine rNil ?_
          refine qSeq ?_
          refine wSeq ?_
          refine wSeq ?_
          refine wRegion ?_
          refine rmI rfl rfl rfl rfl rfl ?_
          refine rne rfl rfl rfl rfl rfl rfl (fun h => absurd h (by decide)) ?_
          intro h27_1
          refine rmB rfl rfl rfl rfl rfl ?_
          refine rmI rfl rfl rfl rfl rfl ?_
          refine rne rfl rfl rfl rfl rfl rfl (fun h => absurd h (by decide)) ?_
          intro h27_4
          refine rpk (e := false) rfl rfl rfl rfl rfl rfl ?_
          refine rmB rfl rfl rfl rfl rfl ?_
          (apply rlr (vs := [.int _ _, .int _ _, .bool _, .int _ _, .int _ _, .int _ _, .int _ _, .str _, _, _]) rfl rfl; (first | ((simp (disch := omega) only [↓app0, ↓appC, ↓updS, ↓updN, ↓hpS, ↓hpN]) <;> first | rfl | assumption) | assumption | rfl); rfl; rfl; (exact Nat.le_of_ble_eq_true rfl); rfl; rfl; rfl; rfl)
          refine rcl (p11U 4 (CK r5 i rq [] [RP 3 r5 ((i : Int) + 1) (lieA an), RP 3 r5 ((i : Int) + 1) (lieA an)]) (.sl true ([RP 3 r5 ((i : Int) + 1) (lieA an), RP 3 r5 ((i : Int) + 1) (lieA an)].map Rp.T)) (.nsl) true false (.refl _) (twN An.T rfl) (facts (acc := []) h9_5 h15_5 h5 (by omega) hlen hall).c2 (Nat.zero_le _)) rfl rfl rfl rfl rfl rfl ?_
          refine rnot (c := true) rfl rfl rfl rfl rfl ?_
          refine rpk (e := false) rfl rfl rfl rfl rfl rfl ?_
          refine rmB rfl rfl rfl rfl rfl ?_
          refine rfa (off := 2) (s := 1) (r := false) rfl rfl rfl (Nat.succ_ne_zero _) rfl rfl rfl ?_
          (apply rlc (v := .bool true) rfl rfl; (first | ((simp (disch := omega) only [↓app0, ↓appC, ↓updS, ↓updN, ↓hpS, ↓hpN]) <;> first | rfl | assumption) | assumption | rfl); rfl; rfl; rfl; rfl; rfl; rfl)
          refine rmI rfl rfl rfl rfl rfl ?_
          refine rlt rfl rfl rfl rfl rfl rfl ?_ (fun h => absurd (by decide) h)
          intro h27_15
          refine rbne (c := true) (e := true) rfl rfl rfl rfl rfl rfl rfl ?_
          refine rpk (e := false) rfl rfl rfl rfl rfl rfl ?_
          refine rNil ?_
          refine qSeq ?_
          refine wF rfl ?_
          refine wSkip ?_
          refine qSeq ?_
          refine wRegion ?_
          (apply rlr (vs := [.int _ _, .int _ _, .bool _, .int _ _, .int _ _, .int _ _, .int _ _, .str _, _, _]) rfl rfl; (first | ((simp (disch := omega) only [↓app0, ↓appC, ↓updS, ↓updN, ↓hpS, ↓hpN]) <;> first | rfl | assumption) | assumption | rfl); rfl; rfl; (exact Nat.le_of_ble_eq_true rfl); rfl; rfl; rfl; rfl)
          (apply rst (u := .agg [.int _ _, .int _ _, .bool _, .int _ _, .int _ _, .int _ _, .int _ _, .str _, _, _]) rfl rfl rfl; (first | ((simp (disch := omega) only [↓app0, ↓appC, ↓updS, ↓updN, ↓hpS, ↓hpN]) <;> first | rfl | assumption) | assumption | rfl); rfl; rfl; rfl; rfl; rfl; (exact Nat.le_of_ble_eq_true rfl); rfl; rfl; rfl)
          refine rNil ?_
          refine qBlock ?_
          refine qSeq ?_
          refine wRegion ?_
          refine rmI rfl rfl rfl rfl rfl ?_
          refine raddF rfl rfl rfl ?_ ?_ rfl rfl rfl ?_
          · (first | omega | (have hq := h15_5.2.1; omega))
          · (first | omega | (have hq := h15_5.2.1; omega))
          refine raI rfl rfl rfl rfl rfl ?_
          refine rNil ?_
          refine qLoop ?_
          refine lStep ?_
          refine wSeq ?_
          refine wSeq ?_
          refine wRegion ?_
          refine rmI rfl rfl rfl rfl rfl ?_
          refine rlt rfl rfl rfl rfl rfl rfl ?_ (fun h => absurd (by decide) h)
          intro h19_1
          refine rNil ?_
          refine qSeq ?_
          refine wT rfl ?_
          refine wSkip ?_
          refine qSeq ?_
          refine wSeq ?_
          refine wBlock ?_
          refine wSeq ?_
          refine wRegion ?_
          refine rbs (es := [[.int _ _], [.int _ _], [.int _ _], [.int _ _]]) rfl rfl rfl rfl (Nat.succ_ne_zero _) (Nat.le_of_ble_eq_true rfl) rfl rfl rfl rfl rfl ?_
          refine rmI rfl rfl rfl rfl rfl ?_
          (apply rixv rfl rfl rfl rfl; (first | ((simp (disch := omega) only [↓app0, ↓appC, ↓updS, ↓updN, ↓hpS, ↓hpN]) <;> first | rfl | assumption) | assumption | rfl); rfl; (first | omega | assumption | (focus (simp; omega))); (first | omega | assumption | (focus (simp; omega))); rfl; rfl; rfl)
          (apply rlc (v := .int _ _) rfl rfl; (first | ((simp (disch := omega) only [↓app0, ↓appC, ↓updS, ↓updN, ↓hpS, ↓hpN]) <;> first | rfl | assumption) | assumption | rfl); rfl; rfl; rfl; rfl; rfl; rfl)
          refine raI rfl rfl rfl rfl rfl ?_
          refine rNil ?_
          refine qSeq ?_
          refine wSeq ?_
          refine wRegion ?_
          (apply rlr (vs := [.int _ _, .int _ _, .int _ _, .int _ _]) rfl rfl; (first | ((simp (disch := omega) only [↓app0, ↓appC, ↓updS, ↓updN, ↓hpS, ↓hpN]) <;> first | rfl | assumption) | assumption | rfl); rfl; rfl; (exact Nat.le_of_ble_eq_true rfl); rfl; rfl; rfl; rfl)
          refine ral rfl rfl rfl rfl rfl rfl ?_
          (apply rst (u := .agg [.int _ _, .int _ _, .int _ _, .int _ _]) rfl rfl rfl; (first | ((simp (disch := omega) only [↓app0, ↓appC, ↓updS, ↓updN, ↓hpS, ↓hpN]) <;> first | rfl | assumption) | assumption | rfl); rfl; rfl; rfl; rfl; rfl; (exact Nat.le_of_ble_eq_true rfl); rfl; rfl; rfl)
          refine rNil ?_
          refine qSeq ?_
          refine wSeq ?_
          refine wSeq ?_
          refine wRegion ?_
          refine rmI rfl rfl rfl rfl rfl ?_
          refine rlt rfl rfl rfl rfl rfl rfl (fun h => absurd h (by decide)) ?_
          intro h23_1
          refine rNil ?_
          refine qSeq ?_
          refine wF rfl ?_
          refine wSkip ?_
          refine qSeq ?_
          refine wSeq ?_
          refine wRegion ?_
          refine rmI rfl rfl rfl rfl rfl ?_
          refine rfa (off := 0) (s := 1) (r := false) rfl rfl rfl (Nat.succ_ne_zero _) rfl rfl rfl ?_
          (apply rlc (v := .int _ _) rfl rfl; (first | ((simp (disch := omega) only [↓app0, ↓appC, ↓updS, ↓updN, ↓hpS, ↓hpN]) <;> first | rfl | assumption) | assumption | rfl); rfl; rfl; rfl; rfl; rfl; rfl)
          refine rfa (off := 1) (s := 1) (r := false) rfl rfl rfl (Nat.succ_ne_zero _) rfl rfl rfl ?_
          (apply rlc (v := .int _ _) rfl rfl; (first | ((simp (disch := omega) only [↓app0, ↓appC, ↓updS, ↓updN, ↓hpS, ↓hpN]) <;> first | rfl | assumption) | assumption | rfl); rfl; rfl; rfl; rfl; rfl; rfl)
          (apply rlr (vs := [.int _ _, .int _ _, .int _ _, .int _ _]) rfl rfl; (first | ((simp (disch := omega) only [↓app0, ↓appC, ↓updS, ↓updN, ↓hpS, ↓hpN]) <;> first | rfl | assumption) | assumption | rfl); rfl; rfl; (exact Nat.le_of_ble_eq_true rfl); rfl; rfl; rfl; rfl)
          refine rcl (p9 1 r5 ((i : Int) + 1) an (rpOk (.inl rfl) h5 (by omega) (anOK h15_5))) rfl rfl rfl rfl rfl rfl ?_
          refine rmT rfl rfl rfl rfl rfl ?_
          refine rex rfl rfl rfl rfl rfl rfl ?_
          refine rex rfl rfl rfl rfl rfl rfl ?_
          refine ral rfl rfl rfl rfl rfl rfl ?_
          (apply rst (u := .agg [.int _ _, .int _ _, .int _ _, .int _ _, .int _ _, .int _ _, .int _ _, .str _]) rfl rfl rfl; (first | ((simp (disch := omega) only [↓app0, ↓appC, ↓updS, ↓updN, ↓hpS, ↓hpN]) <;> first | rfl | assumption) | assumption | rfl); rfl; rfl; rfl; rfl; rfl; (exact Nat.le_of_ble_eq_true rfl); rfl; rfl; rfl)
          refine raI rfl rfl rfl rfl rfl ?_
          refine rNil ?_
          refine qSeq ?_
          refine wSeq ?_
          refine wRegion ?_
          (apply rlr (vs := [.int _ _, .int _ _, .bool _, .int _ _, .int _ _, .int _ _, .int _ _, .str _, _, _]) rfl rfl; (first | ((simp (disch := omega) only [↓app0, ↓appC, ↓updS, ↓updN, ↓hpS, ↓hpN]) <;> first | rfl | assumption) | assumption | rfl); rfl; rfl; (exact Nat.le_of_ble_eq_true rfl); rfl; rfl; rfl; rfl)
          (apply rlr (vs := [.int _ _, .int _ _, .int _ _, .int _ _, .int _ _, .int _ _, .int _ _, .str _]) rfl rfl; (first | ((simp (disch := omega) only [↓app0, ↓appC, ↓updS, ↓updN, ↓hpS, ↓hpN]) <;> first | rfl | assumption) | assumption | rfl); rfl; rfl; (exact Nat.le_of_ble_eq_true rfl); rfl; rfl; rfl; rfl)
          refine rcl (p10VNu 4 (CK r5 i rq [] [RP 3 r5 ((i : Int) + 1) (lieA an), RP 3 r5 ((i : Int) + 1) (lieA an)]) (RP 1 r5 ((i : Int) + 1) an) (facts (acc := []) h9_5 h15_5 h5 (by omega) hlen hall).c2 rfl (rpOK (.inl rfl) h5 (by omega) (anOK h15_5)) (Nat.le_of_ble_eq_true rfl) (Nat.zero_le _) rfl (facts (acc := []) h9_5 h15_5 h5 (by omega) hlen hall).d3) rfl rfl rfl rfl rfl rfl ?_
          refine rmT rfl rfl rfl rfl rfl ?_
          refine rex rfl rfl rfl rfl rfl rfl ?_
          refine rex rfl rfl rfl rfl rfl rfl ?_
          refine ral rfl rfl rfl rfl rfl rfl ?_
          (apply rst (u := .agg [.int _ _, .int _ _, .bool _, .int _ _, .int _ _, .int _ _, .int _ _, .str _, _, _]) rfl rfl rfl; (first | ((simp (disch := omega) only [↓app0, ↓appC, ↓updS, ↓updN, ↓hpS, ↓hpN]) <;> first | rfl | assumption) | assumption | rfl); rfl; rfl; rfl; rfl; rfl; (exact Nat.le_of_ble_eq_true rfl); rfl; rfl; rfl)
          refine raI rfl rfl rfl rfl rfl ?_
          refine rNil ?_
          refine qSeq ?_
          refine wSeq ?_
          refine wSeq ?_
          refine wRegion ?_
          refine rmI rfl rfl rfl rfl rfl ?_
          refine rne rfl rfl rfl rfl rfl rfl (fun h => absurd h (by decide)) ?_
          intro h27_1
          refine rmB rfl rfl rfl rfl rfl ?_
          refine rmI rfl rfl rfl rfl rfl ?_
          refine rne rfl rfl rfl rfl rfl rfl (fun h => absurd h (by decide)) ?_
          intro h27_4
          refine rpk (e := false) rfl rfl rfl rfl rfl rfl ?_
          refine rmB rfl rfl rfl rfl rfl ?_
          (apply rlr (vs := [.int _ _, .int _ _, .bool _, .int _ _, .int _ _, .int _ _, .int _ _, .str _, _, _]) rfl rfl; (first | ((simp (disch := omega) only [↓app0, ↓appC, ↓updS, ↓updN, ↓hpS, ↓hpN]) <;> first | rfl | assumption) | assumption | rfl); rfl; rfl; (exact Nat.le_of_ble_eq_true rfl); rfl; rfl; rfl; rfl)
          refine rcl (p11U 4 (CK r5 i rq [] [RP 3 r5 ((i : Int) + 1) (lieA an), RP 3 r5 ((i : Int) + 1) (lieA an), RP 1 r5 ((i : Int) + 1) an]) (.sl true ([RP 3 r5 ((i : Int) + 1) (lieA an), RP 3 r5 ((i : Int) + 1) (lieA an), RP 1 r5 ((i : Int) + 1) an].map Rp.T)) (.nsl) true false (.refl _) (twN An.T rfl) (facts (acc := []) h9_5 h15_5 h5 (by omega) hlen hall).c3 (Nat.zero_le _)) rfl rfl rfl rfl rfl rfl ?_
          refine rnot (c := true) rfl rfl rfl rfl rfl ?_
          refine rpk (e := false) rfl rfl rfl rfl rfl rfl ?_
          refine rmB rfl rfl rfl rfl rfl ?_
          refine rfa (off := 2) (s := 1) (r := false) rfl rfl rfl (Nat.succ_ne_zero _) rfl rfl rfl ?_
          (apply rlc (v := .bool true) rfl rfl; (first | ((simp (disch := omega) only [↓app0, ↓appC, ↓updS, ↓updN, ↓hpS, ↓hpN]) <;> first | rfl | assumption) | assumption | rfl); rfl; rfl; rfl; rfl; rfl; rfl)
          refine rmI rfl rfl rfl rfl rfl ?_
          refine rlt rfl rfl rfl rfl rfl rfl ?_ (fun h => absurd (by decide) h)
          intro h27_15
          refine rbne (c := true) (e := true) rfl rfl rfl rfl rfl rfl rfl ?_
          refine rpk (e := false) rfl rfl rfl rfl rfl rfl ?_
          refine rNil ?_
          refine qSeq ?_
          refine wF rfl ?_
          refine wSkip ?_
          refine qSeq ?_
          refine wRegion ?_
          (apply rlr (vs := [.int _ _, .int _ _, .bool _, .int _ _, .int _ _, .int _ _, .int _ _, .str _, _, _]) rfl rfl; (first | ((simp (disch := omega) only [↓app0, ↓appC, ↓updS, ↓updN, ↓hpS, ↓hpN]) <;> first | rfl | assumption) | assumption | rfl); rfl; rfl; (exact Nat.le_of_ble_eq_true rfl); rfl; rfl; rfl; rfl)
          (apply rst (u := .agg [.int _ _, .int _ _, .bool _, .int _ _, .int _ _, .int _ _, .int _ _, .str _, _, _]) rfl rfl rfl; (first | ((simp (disch := omega) only [↓app0, ↓appC, ↓updS, ↓updN, ↓hpS, ↓hpN]) <;> first | rfl | assumption) | assumption | rfl); rfl; rfl; rfl; rfl; rfl; (exact Nat.le_of_ble_eq_true rfl); rfl; rfl; rfl)
          refine rNil ?_
          refine qBlock ?_
          refine qSeq ?_
          refine wRegion ?_
          refine rmI rfl rfl rfl rfl rfl ?_
          refine raddF rfl rfl rfl ?_ ?_ rfl rfl rfl ?_
          · (first | omega | (have hq := h15_5.2.1; omega))
          · (first | omega | (have hq := h15_5.2.1; omega))
          refine raI rfl rfl rfl rfl rfl ?_
          refine rNil ?_
          refine qLoop ?_
          refine lStep ?_
          refine wSeq ?_
          refine wSeq ?_
          refine wRegion ?_
          refine rmI rfl rfl rfl rfl rfl ?_
          refine rlt rfl rfl rfl rfl rfl rfl ?_ (fun h => absurd (by decide) h)
          intro h19_1
          refine rNil ?_
          refine qSeq ?_
          refine wT rfl ?_
          refine wSkip ?_
          refine qSeq ?_
          refine wSeq ?_
          refine wBlock ?_
          refine wSeq ?_
          refine wRegion ?_
          refine rbs (es := [[.int _ _], [.int _ _], [.int _ _], [.int _ _]]) rfl rfl rfl rfl (Nat.succ_ne_zero _) (Nat.le_of_ble_eq_true rfl) rfl rfl rfl rfl rfl ?_
          refine rmI rfl rfl rfl rfl rfl ?_
          (apply rixv rfl rfl rfl rfl; (first | ((simp (disch := omega) only [↓app0, ↓appC, ↓updS, ↓updN, ↓hpS, ↓hpN]) <;> first | rfl | assumption) | assumption | rfl); rfl; (first | omega | assumption | (focus (simp; omega))); (first | omega | assumption | (focus (simp; omega))); rfl; rfl; rfl)
          (apply rlc (v := .int _ _) rfl rfl; (first | ((simp (disch := omega) only [↓app0, ↓appC, ↓updS, ↓updN, ↓hpS, ↓hpN]) <;> first | rfl | assumption) | assumption | rfl); rfl; rfl; rfl; rfl; rfl; rfl)
          refine raI rfl rfl rfl rfl rfl ?_
          refine rNil ?_
          refine qSeq ?_
          refine wSeq ?_
          refine wRegion ?_
          (apply rlr (vs := [.int _ _, .int _ _, .int _ _, .int _ _]) rfl rfl; (first | ((simp (disch := omega) only [↓app0, ↓appC, ↓updS, ↓updN, ↓hpS, ↓hpN]) <;> first | rfl | assumption) | assumption | rfl); rfl; rfl; (exact Nat.le_of_ble_eq_true rfl); rfl; rfl; rfl; rfl)
          refine ral rfl rfl rfl rfl rfl rfl ?_
          (apply rst (u := .agg [.int _ _, .int _ _, .int _ _, .int _ _]) rfl rfl rfl; (first | ((simp (disch := omega) only [↓app0, ↓appC, ↓updS, ↓updN, ↓hpS, ↓hpN]) <;> first | rfl | assumption) | assumption | rfl); rfl; rfl; rfl; rfl; rfl; (exact Nat.le_of_ble_eq_true rfl); rfl; rfl; rfl)
          refine rNil ?_
          refine qSeq ?_
          refine wSeq ?_
          refine wSeq ?_
          refine wRegion ?_
          refine rmI rfl rfl rfl rfl rfl ?_
          refine rlt rfl rfl rfl rfl rfl rfl (fun h => absurd h (by decide)) ?_
          intro h23_1
          refine rNil ?_
          refine qSeq ?_
          refine wF rfl ?_
          refine wSkip ?_
          refine qSeq ?_
          refine wSeq ?_
          refine wRegion ?_
          refine rmI rfl rfl rfl rfl rfl ?_
          refine rfa (off := 0) (s := 1) (r := false) rfl rfl rfl (Nat.succ_ne_zero _) rfl rfl rfl ?_
          (apply rlc (v := .int _ _) rfl rfl; (first | ((simp (disch := omega) only [↓app0, ↓appC, ↓updS, ↓updN, ↓hpS, ↓hpN]) <;> first | rfl | assumption) | assumption | rfl); rfl; rfl; rfl; rfl; rfl; rfl)
          refine rfa (off := 1) (s := 1) (r := false) rfl rfl rfl (Nat.succ_ne_zero _) rfl rfl rfl ?_
          (apply rlc (v := .int _ _) rfl rfl; (first | ((simp (disch := omega) only [↓app0, ↓appC, ↓updS, ↓updN, ↓hpS, ↓hpN]) <;> first | rfl | assumption) | assumption | rfl); rfl; rfl; rfl; rfl; rfl; rfl)
          (apply rlr (vs := [.int _ _, .int _ _, .int _ _, .int _ _]) rfl rfl; (first | ((simp (disch := omega) only [↓app0, ↓appC, ↓updS, ↓updN, ↓hpS, ↓hpN]) <;> first | rfl | assumption) | assumption | rfl); rfl; rfl; (exact Nat.le_of_ble_eq_true rfl); rfl; rfl; rfl; rfl)
          refine rcl (p9 2 r5 ((i : Int) + 1) an (rpOk (.inr (.inl rfl)) h5 (by omega) (anOK h15_5))) rfl rfl rfl rfl rfl rfl ?_
          refine rmT rfl rfl rfl rfl rfl ?_
          refine rex rfl rfl rfl rfl rfl rfl ?_
          refine rex rfl rfl rfl rfl rfl rfl ?_
          refine ral rfl rfl rfl rfl rfl rfl ?_
          (apply rst (u := .agg [.int _ _, .int _ _, .int _ _, .int _ _, .int _ _, .int _ _, .int _ _, .str _]) rfl rfl rfl; (first | ((simp (disch := omega) only [↓app0, ↓appC, ↓updS, ↓updN, ↓hpS, ↓hpN]) <;> first | rfl | assumption) | assumption | rfl); rfl; rfl; rfl; rfl; rfl; (exact Nat.le_of_ble_eq_true rfl); rfl; rfl; rfl)
          refine raI rfl rfl rfl rfl rfl ?_
          refine rNil ?_
          refine qSeq ?_
          refine wSeq ?_
          refine wRegion ?_
          (apply rlr (vs := [.int _ _, .int _ _, .bool _, .int _ _, .int _ _, .int _ _, .int _ _, .str _, _, _]) rfl rfl; (first | ((simp (disch := omega) only [↓app0, ↓appC, ↓updS, ↓updN, ↓hpS, ↓hpN]) <;> first | rfl | assumption) | assumption | rfl); rfl; rfl; (exact Nat.le_of_ble_eq_true rfl); rfl; rfl; rfl; rfl)
          (apply rlr (vs := [.int _ _, .int _ _, .int _ _, .int _ _, .int _ _, .int _ _, .int _ _, .str _]) rfl rfl; (first | ((simp (disch := omega) only [↓app0, ↓appC, ↓updS, ↓updN, ↓hpS, ↓hpN]) <;> first | rfl | assumption) | assumption | rfl); rfl; rfl; (exact Nat.le_of_ble_eq_true rfl); rfl; rfl; rfl; rfl)
          refine rcl (p10VNd 4 (CK r5 i rq [] [RP 3 r5 ((i : Int) + 1) (lieA an), RP 3 r5 ((i : Int) + 1) (lieA an), RP 1 r5 ((i : Int) + 1) an]) (RP 2 r5 ((i : Int) + 1) an) (facts (acc := []) h9_5 h15_5 h5 (by omega) hlen hall).c3 rfl (rpOK (.inr (.inl rfl)) h5 (by omega) (anOK h15_5)) (Nat.le_of_ble_eq_true rfl) (Nat.zero_le _) rfl an (facts (acc := []) h9_5 h15_5 h5 (by omega) hlen hall).d4) rfl rfl rfl rfl rfl rfl ?_
          refine rmT rfl rfl rfl rfl rfl ?_
          refine rex rfl rfl rfl rfl rfl rfl ?_
          refine rex rfl rfl rfl rfl rfl rfl ?_
          refine ral rfl rfl rfl rfl rfl rfl ?_
          (apply rst (u := .agg [.int _ _, .int _ _, .bool _, .int _ _, .int _ _, .int _ _, .int _ _, .str _, _, _]) rfl rfl rfl; (first | ((simp (disch := omega) only [↓app0, ↓appC, ↓updS, ↓updN, ↓hpS, ↓hpN]) <;> first | rfl | assumption) | assumption | rfl); rfl; rfl; rfl; rfl; rfl; (exact Nat.le_of_ble_eq_true rfl); rfl; rfl; rfl)
          refine raI rfl rfl rfl rfl rfl ?_
          refine rNil ?_
          refine qSeq ?_
          refine wSeq ?_
          refine wSeq ?_
          refine wRegion ?_
          refine rmI rfl rfl rfl rfl rfl ?_
          refine rne rfl rfl rfl rfl rfl rfl (fun h => absurd h (by decide)) ?_
          intro h27_1
          refine rmB rfl rfl rfl rfl rfl ?_
          refine rmI rfl rfl rfl rfl rfl ?_
          refine rne rfl rfl rfl rfl rfl rfl (fun h => absurd h (by decide)) ?_
          intro h27_4
          refine rpk (e := false) rfl rfl rfl rfl rfl rfl ?_
          refine rmB rfl rfl rfl rfl rfl ?_
          (apply rlr (vs := [.int _ _, .int _ _, .bool _, .int _ _, .int _ _, .int _ _, .int _ _, .str _, _, _]) rfl rfl; (first | ((simp (disch := omega) only [↓app0, ↓appC, ↓updS, ↓updN, ↓hpS, ↓hpN]) <;> first | rfl | assumption) | assumption | rfl); rfl; rfl; (exact Nat.le_of_ble_eq_true rfl); rfl; rfl; rfl; rfl)
          refine rcl (p11U 4 (Cl.mk r5 ((i + 1 : Nat) : Int) false Rq0 [] ([] ++ [an])) .nsl (.sl true (([] ++ [an]).map An.T)) false true (twN Rp.T rfl) (.refl _) (idleOK (i := i + 1) h5 (by omega) (by rw [List.length_append, hlen]; rfl) (okApp hall (anOK h15_5))) (by rw [List.length_append, hlen]; show i + 1 ≤ 1000; omega)) rfl rfl rfl rfl rfl rfl ?_
          refine rnot (c := true) rfl rfl rfl rfl rfl ?_
          refine rpk (e := false) rfl rfl rfl rfl rfl rfl ?_
          refine rmB rfl rfl rfl rfl rfl ?_
          refine rfa (off := 2) (s := 1) (r := false) rfl rfl rfl (Nat.succ_ne_zero _) rfl rfl rfl ?_
          (apply rlc (v := .bool false) rfl rfl; (first | ((simp (disch := omega) only [↓app0, ↓appC, ↓updS, ↓updN, ↓hpS, ↓hpN]) <;> first | rfl | assumption) | assumption | rfl); rfl; rfl; rfl; rfl; rfl; rfl)
          refine rmI rfl rfl rfl rfl rfl ?_
          refine rlt rfl rfl rfl rfl rfl rfl (fun h => absurd h (by decide)) ?_
          intro h27_15
          refine rbne (c := false) (e := false) rfl rfl rfl rfl rfl rfl rfl ?_
          refine rpk (e := false) rfl rfl rfl rfl rfl rfl ?_
          refine rNil ?_
          refine qSeq ?_
          refine wF rfl ?_
          refine wSkip ?_
          refine qSeq ?_
          refine wRegion ?_
          (apply rlr (vs := [.int _ _, .int _ _, .bool _, .int _ _, .int _ _, .int _ _, .int _ _, .str _, _, _]) rfl rfl; (first | ((simp (disch := omega) only [↓app0, ↓appC, ↓updS, ↓updN, ↓hpS, ↓hpN]) <;> first | rfl | assumption) | assumption | rfl); rfl; rfl; (exact Nat.le_of_ble_eq_true rfl); rfl; rfl; rfl; rfl)
          (apply rst (u := .agg [.int _ _, .int _ _, .bool _, .int _ _, .int _ _, .int _ _, .int _ _, .str _, _, _]) rfl rfl rfl; (first | ((simp (disch := omega) only [↓app0, ↓appC, ↓updS, ↓updN, ↓hpS, ↓hpN]) <;> first | rfl | assumption) | assumption | rfl); rfl; rfl; rfl; rfl; rfl; (exact Nat.le_of_ble_eq_true rfl); rfl; rfl; rfl)
          refine rNil ?_
          refine qBlock ?_
          refine qSeq ?_
          refine wRegion ?_
          refine rmI rfl rfl rfl rfl rfl ?_
          refine raddF rfl rfl rfl ?_ ?_ rfl rfl rfl ?_
          · (first | omega | (have hq := h15_5.2.1; omega))
          · (first | omega | (have hq := h15_5.2.1; omega))
          refine raI rfl rfl rfl rfl rfl ?_
          refine rNil ?_
          refine qLoop ?_
          refine lStep ?_
          refine wSeq ?_
          refine wSeq ?_
          refine wRegion ?_
          refine rmI rfl rfl rfl rfl rfl ?_
          refine rlt rfl rfl rfl rfl rfl rfl (fun h => absurd h (by decide)) ?_
          intro h19_1
          refine rNil ?_
          refine qSeq ?_
          refine wF rfl ?_
          refine wExit ?_
          refine qSeqX ?_
          refine qLoopX ?_
          refine qBlockX ?_
          refine qSeq ?_
          refine wSeq ?_
          refine wDraw [0, 1, 3, 0, 8, 31, 63, 127, 255, 127, 1023, 2047, 127, 8191, 16383] rfl (by decide +kernel) ?_
          refine dfa (off := 9) (s := 1) (r := false) rfl rfl rfl (Nat.succ_ne_zero _) rfl rfl rfl ?_
          (apply dlc  rfl rfl; (first | ((simp (disch := omega) only [↓app0, ↓appC, ↓updS, ↓updN, ↓hpS, ↓hpN]) <;> first | rfl | assumption) | assumption | rfl); rfl; rfl; rfl; rfl; rfl; rfl)
          refine dll rfl rfl rfl rfl rfl rfl ?_
          refine dmI rfl rfl rfl rfl rfl ?_
          refine daddF rfl rfl rfl ?_ ?_ rfl rfl rfl ?_
          · (first | omega | (have hq := h15_5.2.1; omega))
          · (first | omega | (have hq := h15_5.2.1; omega))
          refine dne rfl rfl rfl rfl rfl rfl (fun h => absurd h (by rw [List.length_map, List.length_append]; show ¬ ((([] : List An).length + 1 : Nat) : Int) ≠ (i : Int) + 1; rw [hlen]; exact fun h => h rfl)) ?_
          intro h30_5
          refine dmB rfl rfl rfl rfl rfl ?_
          refine dfa (off := 9) (s := 1) (r := false) rfl rfl rfl (Nat.succ_ne_zero _) rfl rfl rfl ?_
          (apply dlc  rfl rfl; (first | ((simp (disch := omega) only [↓app0, ↓appC, ↓updS, ↓updN, ↓hpS, ↓hpN]) <;> first | rfl | assumption) | assumption | rfl); rfl; rfl; rfl; rfl; rfl; rfl)
          refine dmI rfl rfl rfl rfl rfl ?_
          (apply dixl rfl rfl rfl rfl; (first | omega | assumption | (focus (simp; omega))); (first | rfl | assumption | (exact lastGet hlen)); rfl; rfl; rfl; rfl)
          refine dlir (vs := [.int _ _, .int _ _, .int _ _, .int _ _]) rfl rfl rfl (Nat.le_of_ble_eq_true rfl) rfl rfl rfl rfl ?_
          (apply dlr (vs := [.int _ _, .int _ _, .int _ _, .int _ _]) rfl rfl; (first | ((simp (disch := omega) only [↓app0, ↓appC, ↓updS, ↓updN, ↓hpS, ↓hpN]) <;> first | rfl | assumption) | assumption | rfl); rfl; rfl; (exact Nat.le_of_ble_eq_true rfl); rfl; rfl; rfl; rfl)
          refine dSneq rfl rfl rfl (by kernel_rfl) (eqAn an an) rfl rfl rfl (fun h => absurd h (by simp)) ?_
          intro h30_13
          refine dpk (e := false) rfl rfl rfl rfl rfl rfl ?_
          refine dNilR 15 [0, 0, 1, 0, 0, 0, 1, 0, 0, 0, 0, 0, 0, 1, 0] [] rfl rfl (by decide +kernel) trivial ?_
          refine qSeq ?_
          refine wF rfl ?_
          refine wSkip ?_
          refine qBlock ?_
          refine qSeq ?_
          refine wRegion ?_
          refine rmI rfl rfl rfl rfl rfl ?_
          refine raddF rfl rfl rfl ?_ ?_ rfl rfl rfl ?_
          · (first | omega | (have hq := h15_5.2.1; omega))
          · (first | omega | (have hq := h15_5.2.1; omega))
          refine raI rfl rfl rfl rfl rfl ?_
          refine rNil ?_
          refine qLoop ?_
          exact wlH (ih (i + 1, [] ++ [an], .sl true true (([] ++ [an]).map An.T), N + 25) ⟨by dsimp only; omega, by dsimp only; omega, by dsimp only; rw [List.length_append, hlen]; rfl, okApp hall (anOK h15_5), .inr rfl⟩ (by dsimp only; omega)) (by (repeat first | exact LE.nil _ | refine LE.unk _ _ ?_ | refine LE.eq _ _ _ rfl ?_)) (by (repeat first | exact lessH0 | (refine lessHc ?_ ?_; (first | (first | ((simp (disch := omega) only [↓app0, ↓appC, ↓updS, ↓updN, ↓hpS, ↓hpN]) <;> first | rfl | assumption) | assumption | rfl) | fail)))) (Nat.le_refl _)
        · refine rNil ?_
          refine qSeq ?_
          refine wF rfl ?_
          refine wExit ?_
          refine qSeqX ?_
          refine qLoopX ?_
          refine qBlockX ?_
          refine qSeq ?_
          refine wSeq ?_
          refine wRegion ?_
          refine raB rfl rfl rfl rfl rfl ?_
          refine rNil ?_
          refine qSeq ?_
          refine wRet ?_
          exact fin rfl rfl
      · skip
        subst hs
        have hlen : acc.length = i := hI.2.2.1
        have hall : ∀ x ∈ acc, x.OK := hI.2.2.2.1
        refine lStep ?_
        refine wSeq ?_
        refine wSeq ?_
        refine wRegion ?_
        refine rmI rfl rfl rfl rfl rfl ?_
        refine rlt rfl rfl rfl rfl rfl rfl ?_ ?_ <;> intro h7_1
        · refine rNil ?_
          refine qSeq ?_
          refine wT rfl ?_
          refine wSkip ?_
          refine qSeq ?_
          refine wSeq ?_
          refine wBlock ?_
          refine wSeq ?_
          refine wRegion ?_
          refine rmI rfl rfl rfl rfl rfl ?_
          refine rcv rfl rfl rfl rfl rfl rfl rfl ?_
          refine rbs (es := [[.int _ _]]) rfl rfl rfl rfl (Nat.succ_ne_zero _) (Nat.le_of_ble_eq_true rfl) rfl rfl rfl rfl rfl ?_
          refine rmL rfl rfl rfl rfl rfl ?_
          (apply rap (s' := 1) rfl rfl; ((simp (disch := omega) only [↓app0, ↓appC, ↓updS, ↓updN, ↓hpS, ↓hpN]) <;> first | rfl | assumption); rfl; rfl; rfl; rfl; rfl; exact (Nat.succ_ne_zero _); rfl; exact (lenB C); ((simp only [List.length_map]); omega); ((simp only [List.length_map]); omega); rfl; rfl; rfl)
          apply rclSX [N + 1] (p6 true (IntKind.u8.wrap i :: C) (hC.cons _) (by rw [List.length_cons]; omega)) rfl rfl rfl
          · exact SnapL.cons _ _ _ _ (.one _ _ (snapView (b := ⟨(IntKind.u8.wrap i :: C).map bV, 1, 5⟩) ((IntKind.u8.wrap i :: C).map bT) (List.mem_singleton.2 rfl) (by (simp (disch := omega) only [↓app0, ↓appC, ↓updS, ↓updN, ↓hpS, ↓hpN]) <;> exact congrArg (fun z => some (Blk.mk z 1 5)) (rowsB (IntKind.u8.wrap i) C)) (rowsB2 _).symm (by simp [Nat.add_comm]))) SnapL.nil
          · rfl
          · rfl
          · rfl
          rintro rq h9_5
          try dsimp only at h9_5
          refine ral rfl rfl rfl rfl rfl rfl ?_
          (apply rst (u := .agg [.int _ _, .int _ _, .int _ _, .int _ _, .str _]) rfl rfl rfl; (first | ((simp (disch := omega) only [↓app0, ↓appC, ↓updS, ↓updN, ↓hpS, ↓hpN]) <;> first | rfl | assumption) | assumption | rfl); rfl; rfl; rfl; rfl; rfl; (exact Nat.le_of_ble_eq_true rfl); rfl; rfl; rfl)
          refine rNil ?_
          refine qSeq ?_
          refine wSeq ?_
          refine wRegion ?_
          (apply rlr (vs := [.int _ _, .int _ _, .bool _, .int _ _, .int _ _, .int _ _, .int _ _, .str _, _, _]) rfl rfl; (first | ((simp (disch := omega) only [↓app0, ↓appC, ↓updS, ↓updN, ↓hpS, ↓hpN]) <;> first | rfl | assumption) | assumption | rfl); rfl; rfl; (exact Nat.le_of_ble_eq_true rfl); rfl; rfl; rfl; rfl)
          refine rfa (off := 2) (s := 1) (r := false) rfl rfl rfl (Nat.succ_ne_zero _) rfl rfl rfl ?_
          (apply rlc (v := .int _ _) rfl rfl; (first | ((simp (disch := omega) only [↓app0, ↓appC, ↓updS, ↓updN, ↓hpS, ↓hpN]) <;> first | rfl | assumption) | assumption | rfl); rfl; rfl; rfl; rfl; rfl; rfl)
          refine rfa (off := 4) (s := 1) (r := false) rfl rfl rfl (Nat.succ_ne_zero _) rfl rfl rfl ?_
          (apply rlc (v := .str _) rfl rfl; (first | ((simp (disch := omega) only [↓app0, ↓appC, ↓updS, ↓updN, ↓hpS, ↓hpN]) <;> first | rfl | assumption) | assumption | rfl); rfl; rfl; rfl; rfl; rfl; rfl)
          refine rfa (off := 3) (s := 1) (r := false) rfl rfl rfl (Nat.succ_ne_zero _) rfl rfl rfl ?_
          (apply rlc (v := .int _ _) rfl rfl; (first | ((simp (disch := omega) only [↓app0, ↓appC, ↓updS, ↓updN, ↓hpS, ↓hpN]) <;> first | rfl | assumption) | assumption | rfl); rfl; rfl; rfl; rfl; rfl; rfl)
          refine rcl (p7Vok 4 (Cl.mk r5 i false Rq0 [] acc) rq.kd rq.le rq.nm (idleOK h5 (by omega) hlen hall) rfl (by show acc.length ≤ 1000; omega) (nmSz h9_5) rfl ⟨by dsimp only; omega, by dsimp only; omega⟩ (rqOK h9_5 h5 (by omega))) rfl rfl rfl rfl rfl rfl ?_
          refine rmT rfl rfl rfl rfl rfl ?_
          refine rex rfl rfl rfl rfl rfl rfl ?_
          refine rex rfl rfl rfl rfl rfl rfl ?_
          refine ral rfl rfl rfl rfl rfl rfl ?_
          (apply rst (u := .agg [.int _ _, .int _ _, .bool _, .int _ _, .int _ _, .int _ _, .int _ _, .str _, _, _]) rfl rfl rfl; (first | ((simp (disch := omega) only [↓app0, ↓appC, ↓updS, ↓updN, ↓hpS, ↓hpN]) <;> first | rfl | assumption) | assumption | rfl); rfl; rfl; rfl; rfl; rfl; (exact Nat.le_of_ble_eq_true rfl); rfl; rfl; rfl)
          refine raI rfl rfl rfl rfl rfl ?_
          refine rNil ?_
          refine qSeq ?_
          refine wSeq ?_
          refine wRegion ?_
          (apply rlr (vs := [.int _ _, .int _ _, .bool _, .int _ _, .int _ _, .int _ _, .int _ _, .str _, _, _]) rfl rfl; (first | ((simp (disch := omega) only [↓app0, ↓appC, ↓updS, ↓updN, ↓hpS, ↓hpN]) <;> first | rfl | assumption) | assumption | rfl); rfl; rfl; (exact Nat.le_of_ble_eq_true rfl); rfl; rfl; rfl; rfl)
          refine rfa (off := 2) (s := 1) (r := false) rfl rfl rfl (Nat.succ_ne_zero _) rfl rfl rfl ?_
          (apply rlc (v := .int _ _) rfl rfl; (first | ((simp (disch := omega) only [↓app0, ↓appC, ↓updS, ↓updN, ↓hpS, ↓hpN]) <;> first | rfl | assumption) | assumption | rfl); rfl; rfl; rfl; rfl; rfl; rfl)
          refine rfa (off := 4) (s := 1) (r := false) rfl rfl rfl (Nat.succ_ne_zero _) rfl rfl rfl ?_
          (apply rlc (v := .str _) rfl rfl; (first | ((simp (disch := omega) only [↓app0, ↓appC, ↓updS, ↓updN, ↓hpS, ↓hpN]) <;> first | rfl | assumption) | assumption | rfl); rfl; rfl; rfl; rfl; rfl; rfl)
          refine rfa (off := 3) (s := 1) (r := false) rfl rfl rfl (Nat.succ_ne_zero _) rfl rfl rfl ?_
          (apply rlc (v := .int _ _) rfl rfl; (first | ((simp (disch := omega) only [↓app0, ↓appC, ↓updS, ↓updN, ↓hpS, ↓hpN]) <;> first | rfl | assumption) | assumption | rfl); rfl; rfl; rfl; rfl; rfl; rfl)
          refine rcl (p7Vbusy 4 (CK r5 i rq acc []) rq.kd rq.le rq.nm (busyOK h9_5 h5 (by omega) hlen hall (Nat.zero_le _) (fun r hr => absurd hr List.not_mem_nil) rfl) rfl (by show acc.length ≤ 1000; omega) (nmSz h9_5) rfl ⟨by unfold CK; dsimp only; omega, by unfold CK; dsimp only; omega⟩) rfl rfl rfl rfl rfl rfl ?_
          refine rmT rfl rfl rfl rfl rfl ?_
          refine rex rfl rfl rfl rfl rfl rfl ?_
          refine rex rfl rfl rfl rfl rfl rfl ?_
          refine ral rfl rfl rfl rfl rfl rfl ?_
          (apply rst (u := .agg [.int _ _, .int _ _, .bool _, .int _ _, .int _ _, .int _ _, .int _ _, .str _, _, _]) rfl rfl rfl; (first | ((simp (disch := omega) only [↓app0, ↓appC, ↓updS, ↓updN, ↓hpS, ↓hpN]) <;> first | rfl | assumption) | assumption | rfl); rfl; rfl; rfl; rfl; rfl; (exact Nat.le_of_ble_eq_true rfl); rfl; rfl; rfl)
          refine raI rfl rfl rfl rfl rfl ?_
          refine rNil ?_
          refine qSeq ?_
          refine wSeq ?_
          refine wSeq ?_
          refine wRegion ?_
          refine rmI rfl rfl rfl rfl rfl ?_
          refine rne rfl rfl rfl rfl rfl rfl (fun h => absurd h (by decide)) ?_
          intro h12_1
          refine rmB rfl rfl rfl rfl rfl ?_
          refine rmI rfl rfl rfl rfl rfl ?_
          refine rne rfl rfl rfl rfl rfl rfl (fun h => absurd h (by decide)) ?_
          intro h12_4
          refine rpk (e := false) rfl rfl rfl rfl rfl rfl ?_
          refine rmB rfl rfl rfl rfl rfl ?_
          refine rfa (off := 2) (s := 1) (r := false) rfl rfl rfl (Nat.succ_ne_zero _) rfl rfl rfl ?_
          (apply rlc (v := .bool true) rfl rfl; (first | ((simp (disch := omega) only [↓app0, ↓appC, ↓updS, ↓updN, ↓hpS, ↓hpN]) <;> first | rfl | assumption) | assumption | rfl); rfl; rfl; rfl; rfl; rfl; rfl)
          refine rnot (c := true) rfl rfl rfl rfl rfl ?_
          refine rpk (e := false) rfl rfl rfl rfl rfl rfl ?_
          refine rmB rfl rfl rfl rfl rfl ?_
          refine rfa (off := 1) (s := 1) (r := false) rfl rfl rfl (Nat.succ_ne_zero _) rfl rfl rfl ?_
          (apply rlc (v := .int _ _) rfl rfl; (first | ((simp (disch := omega) only [↓app0, ↓appC, ↓updS, ↓updN, ↓hpS, ↓hpN]) <;> first | rfl | assumption) | assumption | rfl); rfl; rfl; rfl; rfl; rfl; rfl)
          refine rmI rfl rfl rfl rfl rfl ?_
          refine raddF rfl rfl rfl ?_ ?_ rfl rfl rfl ?_
          · (first | omega | (have hq := h15_5.2.1; omega))
          · (first | omega | (have hq := h15_5.2.1; omega))
          refine rne rfl rfl rfl rfl rfl rfl (fun h => absurd h (by omega)) ?_
          intro h12_16
          refine rpk (e := false) rfl rfl rfl rfl rfl rfl ?_
          refine rmB rfl rfl rfl rfl rfl ?_
          refine rfa (off := 3) (s := 5) (r := true) rfl rfl rfl (Nat.succ_ne_zero _) rfl rfl rfl ?_
          refine rfa (off := 4) (s := 1) (r := false) rfl rfl rfl (Nat.succ_ne_zero _) rfl rfl rfl ?_
          (apply rlc (v := .str _) rfl rfl; (first | ((simp (disch := omega) only [↓app0, ↓appC, ↓updS, ↓updN, ↓hpS, ↓hpN]) <;> first | rfl | assumption) | assumption | rfl); rfl; rfl; rfl; rfl; rfl; rfl)
          refine rfa (off := 4) (s := 1) (r := false) rfl rfl rfl (Nat.succ_ne_zero _) rfl rfl rfl ?_
          (apply rlc (v := .str _) rfl rfl; (first | ((simp (disch := omega) only [↓app0, ↓appC, ↓updS, ↓updN, ↓hpS, ↓hpN]) <;> first | rfl | assumption) | assumption | rfl); rfl; rfl; rfl; rfl; rfl; rfl)
          refine rsne rfl rfl rfl rfl rfl rfl (fun h => absurd h (fun h => h rfl)) ?_
          intro h12_24
          refine rpk (e := false) rfl rfl rfl rfl rfl rfl ?_
          refine rNil ?_
          refine qSeq ?_
          refine wF rfl ?_
          refine wSkip ?_
          refine qSeq ?_
          refine wSeq ?_
          refine wRegion ?_
          (apply rlr (vs := [.int _ _, .int _ _, .bool _, .int _ _, .int _ _, .int _ _, .int _ _, .str _, _, _]) rfl rfl; (first | ((simp (disch := omega) only [↓app0, ↓appC, ↓updS, ↓updN, ↓hpS, ↓hpN]) <;> first | rfl | assumption) | assumption | rfl); rfl; rfl; (exact Nat.le_of_ble_eq_true rfl); rfl; rfl; rfl; rfl)
          (apply rst (u := .agg [.int _ _, .int _ _, .bool _, .int _ _, .int _ _, .int _ _, .int _ _, .str _, _, _]) rfl rfl rfl; (first | ((simp (disch := omega) only [↓app0, ↓appC, ↓updS, ↓updN, ↓hpS, ↓hpN]) <;> first | rfl | assumption) | assumption | rfl); rfl; rfl; rfl; rfl; rfl; (exact Nat.le_of_ble_eq_true rfl); rfl; rfl; rfl)
          refine rNil ?_
          refine qSeq ?_
          refine wSeq ?_
          refine wRegion ?_
          refine rmI rfl rfl rfl rfl rfl ?_
          refine rcv rfl rfl rfl rfl rfl rfl rfl ?_
          refine rbs (es := [[.int _ _]]) rfl rfl rfl rfl (Nat.succ_ne_zero _) (Nat.le_of_ble_eq_true rfl) rfl rfl rfl rfl rfl ?_
          refine rmL rfl rfl rfl rfl rfl ?_
          (apply rap (s' := 1) rfl rfl; ((simp (disch := omega) only [↓app0, ↓appC, ↓updS, ↓updN, ↓hpS, ↓hpN]) <;> first | rfl | assumption); rfl; rfl; rfl; rfl; rfl; exact (Nat.succ_ne_zero _); rfl; exact (lenB B); ((simp only [List.length_map]); omega); ((simp only [List.length_map]); omega); rfl; rfl; rfl)
          apply rclSX [N + 6] (p8 true (IntKind.u8.wrap i :: B) (hB.cons _) (by rw [List.length_cons]; omega)) rfl rfl rfl
          · exact SnapL.cons _ _ _ _ (.one _ _ (snapView (b := ⟨(IntKind.u8.wrap i :: B).map bV, 1, 5⟩) ((IntKind.u8.wrap i :: B).map bT) (List.mem_singleton.2 rfl) (by (simp (disch := omega) only [↓app0, ↓appC, ↓updS, ↓updN, ↓hpS, ↓hpN]) <;> exact congrArg (fun z => some (Blk.mk z 1 5)) (rowsB (IntKind.u8.wrap i) B)) (rowsB2 _).symm (by simp [Nat.add_comm]))) SnapL.nil
          · rfl
          · rfl
          · rfl
          rintro an h15_5
          try dsimp only at h15_5
          refine ral rfl rfl rfl rfl rfl rfl ?_
          (apply rst (u := .agg [.int _ _, .int _ _, .int _ _, .int _ _]) rfl rfl rfl; (first | ((simp (disch := omega) only [↓app0, ↓appC, ↓updS, ↓updN, ↓hpS, ↓hpN]) <;> first | rfl | assumption) | assumption | rfl); rfl; rfl; rfl; rfl; rfl; (exact Nat.le_of_ble_eq_true rfl); rfl; rfl; rfl)
          refine rNil ?_
          refine qSeq ?_
          refine wSeq ?_
          refine wRegion ?_
          (apply rlr (vs := [.int _ _, .int _ _, .int _ _, .int _ _]) rfl rfl; (first | ((simp (disch := omega) only [↓app0, ↓appC, ↓updS, ↓updN, ↓hpS, ↓hpN]) <;> first | rfl | assumption) | assumption | rfl); rfl; rfl; (exact Nat.le_of_ble_eq_true rfl); rfl; rfl; rfl; rfl)
          refine ral rfl rfl rfl rfl rfl rfl ?_
          (apply rst (u := .agg [.int _ _, .int _ _, .int _ _, .int _ _]) rfl rfl rfl; (first | ((simp (disch := omega) only [↓app0, ↓appC, ↓updS, ↓updN, ↓hpS, ↓hpN]) <;> first | rfl | assumption) | assumption | rfl); rfl; rfl; rfl; rfl; rfl; (exact Nat.le_of_ble_eq_true rfl); rfl; rfl; rfl)
          refine rNil ?_
          refine qSeq ?_
          refine wSeq ?_
          refine wRegion ?_
          refine rfa (off := 1) (s := 1) (r := false) rfl rfl rfl (Nat.succ_ne_zero _) rfl rfl rfl ?_
          (apply rlc (v := .int _ _) rfl rfl; (first | ((simp (disch := omega) only [↓app0, ↓appC, ↓updS, ↓updN, ↓hpS, ↓hpN]) <;> first | rfl | assumption) | assumption | rfl); rfl; rfl; rfl; rfl; rfl; rfl)
          refine raddF rfl rfl rfl ?_ ?_ rfl rfl rfl ?_
          · (first | omega | (have hq := h15_5.2.1; omega))
          · (first | omega | (have hq := h15_5.2.1; omega))
          refine rfa (off := 1) (s := 1) (r := false) rfl rfl rfl (Nat.succ_ne_zero _) rfl rfl rfl ?_
          (apply rst (u := .int _ _) rfl rfl rfl; (first | ((simp (disch := omega) only [↓app0, ↓appC, ↓updS, ↓updN, ↓hpS, ↓hpN]) <;> first | rfl | assumption) | assumption | rfl); rfl; rfl; rfl; rfl; rfl; (exact Nat.le_of_ble_eq_true rfl); rfl; rfl; rfl)
          refine rNil ?_
          refine qSeq ?_
          refine wSeq ?_
          refine wSeq ?_
          refine wRegion ?_
          refine raI rfl rfl rfl rfl rfl ?_
          refine rNil ?_
          refine qSeq ?_
          refine wBlock ?_
          refine wLoop ?_
          refine lStep ?_
          refine wSeq ?_
          refine wSeq ?_
          refine wRegion ?_
          refine rmI rfl rfl rfl rfl rfl ?_
          refine rlt rfl rfl rfl rfl rfl rfl ?_ (fun h => absurd (by decide) h)
          intro h19_1
          refine rNil ?_
          refine qSeq ?_
          refine wT rfl ?_
          refine wSkip ?_
          refine qSeq ?_
          refine wSeq ?_
          refine wBlock ?_
          refine wSeq ?_
          refine wRegion ?_
          refine rbs (es := [[.int _ _], [.int _ _], [.int _ _], [.int _ _]]) rfl rfl rfl rfl (Nat.succ_ne_zero _) (Nat.le_of_ble_eq_true rfl) rfl rfl rfl rfl rfl ?_
          refine rmI rfl rfl rfl rfl rfl ?_
          (apply rixv rfl rfl rfl rfl; (first | ((simp (disch := omega) only [↓app0, ↓appC, ↓updS, ↓updN, ↓hpS, ↓hpN]) <;> first | rfl | assumption) | assumption | rfl); rfl; (first | omega | assumption | (focus (simp; omega))); (first | omega | assumption | (focus (simp; omega))); rfl; rfl; rfl)
          (apply rlc (v := .int _ _) rfl rfl; (first | ((simp (disch := omega) only [↓app0, ↓appC, ↓updS, ↓updN, ↓hpS, ↓hpN]) <;> first | rfl | assumption) | assumption | rfl); rfl; rfl; rfl; rfl; rfl; rfl)
          refine raI rfl rfl rfl rfl rfl ?_
          refine rNil ?_
          refine qSeq ?_
          refine wSeq ?_
          refine wRegion ?_
          (apply rlr (vs := [.int _ _, .int _ _, .int _ _, .int _ _]) rfl rfl; (first | ((simp (disch := omega) only [↓app0, ↓appC, ↓updS, ↓updN, ↓hpS, ↓hpN]) <;> first | rfl | assumption) | assumption | rfl); rfl; rfl; (exact Nat.le_of_ble_eq_true rfl); rfl; rfl; rfl; rfl)
          refine ral rfl rfl rfl rfl rfl rfl ?_
          (apply rst (u := .agg [.int _ _, .int _ _, .int _ _, .int _ _]) rfl rfl rfl; (first | ((simp (disch := omega) only [↓app0, ↓appC, ↓updS, ↓updN, ↓hpS, ↓hpN]) <;> first | rfl | assumption) | assumption | rfl); rfl; rfl; rfl; rfl; rfl; (exact Nat.le_of_ble_eq_true rfl); rfl; rfl; rfl)
          refine rNil ?_
          refine qSeq ?_
          refine wSeq ?_
          refine wSeq ?_
          refine wRegion ?_
          refine rmI rfl rfl rfl rfl rfl ?_
          refine rlt rfl rfl rfl rfl rfl rfl ?_ (fun h => absurd (by decide) h)
          intro h23_1
          refine rNil ?_
          refine qSeq ?_
          refine wT rfl ?_
          refine wRegion ?_
          (apply rlr (vs := [.int _ _, .int _ _, .int _ _, .int _ _]) rfl rfl; (first | ((simp (disch := omega) only [↓app0, ↓appC, ↓updS, ↓updN, ↓hpS, ↓hpN]) <;> first | rfl | assumption) | assumption | rfl); rfl; rfl; (exact Nat.le_of_ble_eq_true rfl); rfl; rfl; rfl; rfl)
          (apply rst (u := .agg [.int _ _, .int _ _, .int _ _, .int _ _]) rfl rfl rfl; (first | ((simp (disch := omega) only [↓app0, ↓appC, ↓updS, ↓updN, ↓hpS, ↓hpN]) <;> first | rfl | assumption) | assumption | rfl); rfl; rfl; rfl; rfl; rfl; (exact Nat.le_of_ble_eq_true rfl); rfl; rfl; rfl)
          refine rNil ?_
          refine qSeq ?_
          refine wSeq ?_
          refine wRegion ?_
          refine rmI rfl rfl rfl rfl rfl ?_
          refine rfa (off := 0) (s := 1) (r := false) rfl rfl rfl (Nat.succ_ne_zero _) rfl rfl rfl ?_
          (apply rlc (v := .int _ _) rfl rfl; (first | ((simp (disch := omega) only [↓app0, ↓appC, ↓updS, ↓updN, ↓hpS, ↓hpN]) <;> first | rfl | assumption) | assumption | rfl); rfl; rfl; rfl; rfl; rfl; rfl)
          refine rfa (off := 1) (s := 1) (r := false) rfl rfl rfl (Nat.succ_ne_zero _) rfl rfl rfl ?_
          (apply rlc (v := .int _ _) rfl rfl; (first | ((simp (disch := omega) only [↓app0, ↓appC, ↓updS, ↓updN, ↓hpS, ↓hpN]) <;> first | rfl | assumption) | assumption | rfl); rfl; rfl; rfl; rfl; rfl; rfl)
          (apply rlr (vs := [.int _ _, .int _ _, .int _ _, .int _ _]) rfl rfl; (first | ((simp (disch := omega) only [↓app0, ↓appC, ↓updS, ↓updN, ↓hpS, ↓hpN]) <;> first | rfl | assumption) | assumption | rfl); rfl; rfl; (exact Nat.le_of_ble_eq_true rfl); rfl; rfl; rfl; rfl)
          refine rcl (p9 3 r5 ((i : Int) + 1) (lieA an) (rpOk (.inr (.inr rfl)) h5 (by omega) (lieOK h15_5))) rfl rfl rfl rfl rfl rfl ?_
          refine rmT rfl rfl rfl rfl rfl ?_
          refine rex rfl rfl rfl rfl rfl rfl ?_
          refine rex rfl rfl rfl rfl rfl rfl ?_
          refine ral rfl rfl rfl rfl rfl rfl ?_
          (apply rst (u := .agg [.int _ _, .int _ _, .int _ _, .int _ _, .int _ _, .int _ _, .int _ _, .str _]) rfl rfl rfl; (first | ((simp (disch := omega) only [↓app0, ↓appC, ↓updS, ↓updN, ↓hpS, ↓hpN]) <;> first | rfl | assumption) | assumption | rfl); rfl; rfl; rfl; rfl; rfl; (exact Nat.le_of_ble_eq_true rfl); rfl; rfl; rfl)
          refine raI rfl rfl rfl rfl rfl ?_
          refine rNil ?_
          refine qSeq ?_
          refine wSeq ?_
          refine wRegion ?_
          (apply rlr (vs := [.int _ _, .int _ _, .bool _, .int _ _, .int _ _, .int _ _, .int _ _, .str _, _, _]) rfl rfl; (first | ((simp (disch := omega) only [↓app0, ↓appC, ↓updS, ↓updN, ↓hpS, ↓hpN]) <;> first | rfl | assumption) | assumption | rfl); rfl; rfl; (exact Nat.le_of_ble_eq_true rfl); rfl; rfl; rfl; rfl)
          (apply rlr (vs := [.int _ _, .int _ _, .int _ _, .int _ _, .int _ _, .int _ _, .int _ _, .str _]) rfl rfl; (first | ((simp (disch := omega) only [↓app0, ↓appC, ↓updS, ↓updN, ↓hpS, ↓hpN]) <;> first | rfl | assumption) | assumption | rfl); rfl; rfl; (exact Nat.le_of_ble_eq_true rfl); rfl; rfl; rfl; rfl)
          refine rcl (p10NVu 4 (CK r5 i rq acc []) (RP 3 r5 ((i : Int) + 1) (lieA an)) (facts (acc := acc) h9_5 h15_5 h5 (by omega) hlen hall).c0 rfl (rpOK (.inr (.inr rfl)) h5 (by omega) (lieOK h15_5)) (Nat.le_of_ble_eq_true rfl) (by show acc.length ≤ 1000; omega) rfl (facts (acc := acc) h9_5 h15_5 h5 (by omega) hlen hall).d1) rfl rfl rfl rfl rfl rfl ?_
          refine rmT rfl rfl rfl rfl rfl ?_
          refine rex rfl rfl rfl rfl rfl rfl ?_
          refine rex rfl rfl rfl rfl rfl rfl ?_
          refine ral rfl rfl rfl rfl rfl rfl ?_
          (apply rst (u := .agg [.int _ _, .int _ _, .bool _, .int _ _, .int _ _, .int _ _, .int _ _, .str _, _, _]) rfl rfl rfl; (first | ((simp (disch := omega) only [↓app0, ↓appC, ↓updS, ↓updN, ↓hpS, ↓hpN]) <;> first | rfl | assumption) | assumption | rfl); rfl; rfl; rfl; rfl; rfl; (exact Nat.le_of_ble_eq_true rfl); rfl; rfl; rfl)
          refine raI rfl rfl rfl rfl rfl ?_
          refine rNil ?_
          refine qSeq ?_
          refine wSeq ?_
          refine wSeq ?_
          refine wRegion ?_
          refine rmI rfl rfl rfl rfl rfl ?_
          refine rne rfl rfl rfl rfl rfl rfl (fun h => absurd h (by decide)) ?_
          intro h27_1
          refine rmB rfl rfl rfl rfl rfl ?_
          refine rmI rfl rfl rfl rfl rfl ?_
          refine rne rfl rfl rfl rfl rfl rfl (fun h => absurd h (by decide)) ?_
          intro h27_4
          refine rpk (e := false) rfl rfl rfl rfl rfl rfl ?_
          refine rmB rfl rfl rfl rfl rfl ?_
          (apply rlr (vs := [.int _ _, .int _ _, .bool _, .int _ _, .int _ _, .int _ _, .int _ _, .str _, _, _]) rfl rfl; (first | ((simp (disch := omega) only [↓app0, ↓appC, ↓updS, ↓updN, ↓hpS, ↓hpN]) <;> first | rfl | assumption) | assumption | rfl); rfl; rfl; (exact Nat.le_of_ble_eq_true rfl); rfl; rfl; rfl; rfl)
          refine rcl (p11U 4 (CK r5 i rq acc [RP 3 r5 ((i : Int) + 1) (lieA an)]) (.sl true ([RP 3 r5 ((i : Int) + 1) (lieA an)].map Rp.T)) (.sl true (acc.map An.T)) true true (.refl _) (.refl _) (facts (acc := acc) h9_5 h15_5 h5 (by omega) hlen hall).c1 (by show acc.length ≤ 1000; omega)) rfl rfl rfl rfl rfl rfl ?_
          refine rnot (c := true) rfl rfl rfl rfl rfl ?_
          refine rpk (e := false) rfl rfl rfl rfl rfl rfl ?_
          refine rmB rfl rfl rfl rfl rfl ?_
          refine rfa (off := 2) (s := 1) (r := false) rfl rfl rfl (Nat.succ_ne_zero _) rfl rfl rfl ?_
          (apply rlc (v := .bool true) rfl rfl; (first | ((simp (disch := omega) only [↓app0, ↓appC, ↓updS, ↓updN, ↓hpS, ↓hpN]) <;> first | rfl | assumption) | assumption | rfl); rfl; rfl; rfl; rfl; rfl; rfl)
          refine rmI rfl rfl rfl rfl rfl ?_
          refine rlt rfl rfl rfl rfl rfl rfl ?_ (fun h => absurd (by decide) h)
          intro h27_15
          refine rbne (c := true) (e := true) rfl rfl rfl rfl rfl rfl rfl ?_
          refine rpk (e := false) rfl rfl rfl rfl rfl rfl ?_
          refine rNil ?_
          refine qSeq ?_
          refine wF rfl ?_
          refine wSkip ?_
          refine qSeq ?_
          refine wRegion ?_
          (apply rlr (vs := [.int _ _, .int _ _, .bool _, .int _ _, .int _ _, .int _ _, .int _ _, .str _, _, _]) rfl rfl; (first | ((simp (disch := omega) only [↓app0, ↓appC, ↓updS, ↓updN, ↓hpS, ↓hpN]) <;> first | rfl | assumption) | assumption | rfl); rfl; rfl; (exact Nat.le_of_ble_eq_true rfl); rfl; rfl; rfl; rfl)
          (apply rst (u := .agg [.int _ _, .int _ _, .bool _, .int _ _, .int _ _, .int _ _, .int _ _, .str _, _, _]) rfl rfl rfl; (first | ((simp (disch := omega) only [↓app0, ↓appC, ↓updS, ↓updN, ↓hpS, ↓hpN]) <;> first | rfl | assumption) | assumption | rfl); rfl; rfl; rfl; rfl; rfl; (exact Nat.le_of_ble_eq_true rfl); rfl; rfl; rfl)
          refine rNil ?_
          refine qBlock ?_
          refine qSeq ?_
          refine wRegion ?_
          refine rmI rfl rfl rfl rfl rfl ?_
          refine raddF rfl rfl rfl ?_ ?_ rfl rfl rfl ?_
          · (first | omega | (have hq := h15_5.2.1; omega))
          · (first | omega | (have hq := h15_5.2.1; omega))
          refine raI rfl rfl rfl rfl rfl ?_
          refine rNil ?_
          refine qLoop ?_
          refine lStep ?_
          refine wSeq ?_
          refine wSeq ?_
          refine wRegion ?_
          refine rmI rfl rfl rfl rfl rfl ?_
          refine rlt rfl rfl rfl rfl rfl rfl ?_ (fun h => absurd (by decide) h)
          intro h19_1
          refine rNil ?_
          refine qSeq ?_
          refine wT rfl ?_
          refine wSkip ?_
          refine qSeq ?_
          refine wSeq ?_
          refine wBlock ?_
          refine wSeq ?_
          refine wRegion ?_
          refine rbs (es := [[.int _ _], [.int _ _], [.int _ _], [.int _ _]]) rfl rfl rfl rfl (Nat.succ_ne_zero _) (Nat.le_of_ble_eq_true rfl) rfl rfl rfl rfl rfl ?_
          refine rmI rfl rfl rfl rfl rfl ?_
          (apply rixv rfl rfl rfl rfl; (first | ((simp (disch := omega) only [↓app0, ↓appC, ↓updS, ↓updN, ↓hpS, ↓hpN]) <;> first | rfl | assumption) | assumption | rfl); rfl; (first | omega | assumption | (focus (simp; omega))); (first | omega | assumption | (focus (simp; omega))); rfl; rfl; rfl)
          (apply rlc (v := .int _ _) rfl rfl; (first | ((simp (disch := omega) only [↓app0, ↓appC, ↓updS, ↓updN, ↓hpS, ↓hpN]) <;> first | rfl | assumption) | assumption | rfl); rfl; rfl; rfl; rfl; rfl; rfl)
          refine raI rfl rfl rfl rfl rfl ?_
          refine rNil ?_
          refine qSeq ?_
          refine wSeq ?_
          refine wRegion ?_
          (apply rlr (vs := [.int _ _, .int _ _, .int _ _, .int _ _]) rfl rfl; (first | ((simp (disch := omega) only [↓app0, ↓appC, ↓updS, ↓updN, ↓hpS, ↓hpN]) <;> first | rfl | assumption) | assumption | rfl); rfl; rfl; (exact Nat.le_of_ble_eq_true rfl); rfl; rfl; rfl; rfl)
          refine ral rfl rfl rfl rfl rfl rfl ?_
          (apply rst (u := .agg [.int _ _, .int _ _, .int _ _, .int _ _]) rfl rfl rfl; (first | ((simp (disch := omega) only [↓app0, ↓appC, ↓updS, ↓updN, ↓hpS, ↓hpN]) <;> first | rfl | assumption) | assumption | rfl); rfl; rfl; rfl; rfl; rfl; (exact Nat.le_of_ble_eq_true rfl); rfl; rfl; rfl)
          refine rNil ?_
          refine qSeq ?_
          refine wSeq ?_
          refine wSeq ?_
          refine wRegion ?_
          refine rmI rfl rfl rfl rfl rfl ?_
          refine rlt rfl rfl rfl rfl rfl rfl ?_ (fun h => absurd (by decide) h)
          intro h23_1
          refine rNil ?_
          refine qSeq ?_
          refine wT rfl ?_
          refine wRegion ?_
          (apply rlr (vs := [.int _ _, .int _ _, .int _ _, .int _ _]) rfl rfl; (first | ((simp (disch := omega) only [↓app0, ↓appC, ↓updS, ↓updN, ↓hpS, ↓hpN]) <;> first | rfl | assumption) | assumption | rfl); rfl; rfl; (exact Nat.le_of_ble_eq_true rfl); rfl; rfl; rfl; rfl)
          (apply rst (u := .agg [.int _ _, .int _ _, .int _ _, .int _ _]) rfl rfl rfl; (first | ((simp (disch := omega) only [↓app0, ↓appC, ↓updS, ↓updN, ↓hpS, ↓hpN]) <;> first | rfl | assumption) | assumption | rfl); rfl; rfl; rfl; rfl; rfl; (exact Nat.le_of_ble_eq_true rfl); rfl; rfl; rfl)
          refine rNil ?_
          refine qSeq ?_
          refine wSeq ?_
          refine wRegion ?_
          refine rmI rfl rfl rfl rfl rfl ?_
          refine rfa (off := 0) (s := 1) (r := false) rfl rfl rfl (Nat.succ_ne_zero _) rfl rfl rfl ?_
          (apply rlc (v := .int _ _) rfl rfl; (first | ((simp (disch := omega) only [↓app0, ↓appC, ↓updS, ↓updN, ↓hpS, ↓hpN]) <;> first | rfl | assumption) | assumption | rfl); rfl; rfl; rfl; rfl; rfl; rfl)
          refine rfa (off := 1) (s := 1) (r := false) rfl rfl rfl (Nat.succ_ne_zero _) rfl rfl rfl ?_
          (apply rlc (v := .int _ _) rfl rfl; (first | ((simp (disch := omega) only [↓app0, ↓appC, ↓updS, ↓updN, ↓hpS, ↓hpN]) <;> first | rfl | assumption) | assumption | rfl); rfl; rfl; rfl; rfl; rfl; rfl)
          (apply rlr (vs := [.int _ _, .int _ _, .int _ _, .int _ _]) rfl rfl; (first | ((simp (disch := omega) only [↓app0, ↓appC, ↓updS, ↓updN, ↓hpS, ↓hpN]) <;> first | rfl | assumption) | assumption | rfl); rfl; rfl; (exact Nat.le_of_ble_eq_true rfl); rfl; rfl; rfl; rfl)
          refine rcl (p9 3 r5 ((i : Int) + 1) (lieA an) (rpOk (.inr (.inr rfl)) h5 (by omega) (lieOK h15_5))) rfl rfl rfl rfl rfl rfl ?_
          refine rmT rfl rfl rfl rfl rfl ?_
          refine rex rfl rfl rfl rfl rfl rfl ?_
          refine rex rfl rfl rfl rfl rfl rfl ?_
          refine ral rfl rfl rfl rfl rfl rfl ?_
          (apply rst (u := .agg [.int _ _, .int _ _, .int _ _, .int _ _, .int _ _, .int _ _, .int _ _, .str _]) rfl rfl rfl; (first | ((simp (disch := omega) only [↓app0, ↓appC, ↓updS, ↓updN, ↓hpS, ↓hpN]) <;> first | rfl | assumption) | assumption | rfl); rfl; rfl; rfl; rfl; rfl; (exact Nat.le_of_ble_eq_true rfl); rfl; rfl; rfl)
          refine raI rfl rfl rfl rfl rfl ?_
          refine rNil ?_
          refine qSeq ?_
          refine wSeq ?_
          refine wRegion ?_
          (apply rlr (vs := [.int _ _, .int _ _, .bool _, .int _ _, .int _ _, .int _ _, .int _ _, .str _, _, _]) rfl rfl; (first | ((simp (disch := omega) only [↓app0, ↓appC, ↓updS, ↓updN, ↓hpS, ↓hpN]) <;> first | rfl | assumption) | assumption | rfl); rfl; rfl; (exact Nat.le_of_ble_eq_true rfl); rfl; rfl; rfl; rfl)
          (apply rlr (vs := [.int _ _, .int _ _, .int _ _, .int _ _, .int _ _, .int _ _, .int _ _, .str _]) rfl rfl; (first | ((simp (disch := omega) only [↓app0, ↓appC, ↓updS, ↓updN, ↓hpS, ↓hpN]) <;> first | rfl | assumption) | assumption | rfl); rfl; rfl; (exact Nat.le_of_ble_eq_true rfl); rfl; rfl; rfl; rfl)
          refine rcl (p10VVu 4 (CK r5 i rq acc [RP 3 r5 ((i : Int) + 1) (lieA an)]) (RP 3 r5 ((i : Int) + 1) (lieA an)) (facts (acc := acc) h9_5 h15_5 h5 (by omega) hlen hall).c1 rfl (rpOK (.inr (.inr rfl)) h5 (by omega) (lieOK h15_5)) (Nat.le_of_ble_eq_true rfl) (by show acc.length ≤ 1000; omega) (facts (acc := acc) h9_5 h15_5 h5 (by omega) hlen hall).d2) rfl rfl rfl rfl rfl rfl ?_
          refine rmT rfl rfl rfl rfl rfl ?_
          refine rex rfl rfl rfl rfl rfl rfl ?_
          refine rex rfl rfl rfl rfl rfl rfl ?_
          refine ral rfl rfl rfl rfl rfl rfl ?_
          (apply rst (u := .agg [.int _ _, .int _ _, .bool _, .int _ _, .int _ _, .int _ _, .int _ _, .str _, _, _]) rfl rfl rfl; (first | ((simp (disch := omega) only [↓app0, ↓appC, ↓updS, ↓updN, ↓hpS, ↓hpN]) <;> first | rfl | assumption) | assumption | rfl); rfl; rfl; rfl; rfl; rfl; (exact Nat.le_of_ble_eq_true rfl); rfl; rfl; rfl)
          refine raI rfl rfl rfl rfl rfl ?_
          refine rNil ?_
          refine qSeq ?_
          refine wSeq ?_
          refine wSeq ?_
          refine wRegion ?_
          refine rmI rfl rfl rfl rfl rfl ?_
          refine rne rfl rfl rfl rfl rfl rfl (fun h => absurd h (by decide)) ?_
          intro h27_1
          refine rmB rfl rfl rfl rfl rfl ?_
          refine rmI rfl rfl rfl rfl rfl ?_
          refine rne rfl rfl rfl rfl rfl rfl (fun h => absurd h (by decide)) ?_
          intro h27_4
          refine rpk (e := false) rfl rfl rfl rfl rfl rfl ?_
          refine rmB rfl rfl rfl rfl rfl ?_
          (apply rlr (vs := [.int _ _, .int _ _, .bool _, .int _ _, .int _ _, .int _ _, .int _ _, .str _, _, _]) rfl rfl; (first | ((simp (disch := omega) only [↓app0, ↓appC, ↓updS, ↓updN, ↓hpS, ↓hpN]) <;> first | rfl | assumption) | assumption | rfl); rfl; rfl; (exact Nat.le_of_ble_eq_true rfl); rfl; rfl; rfl; rfl)
          refine rcl (p11U 4 (CK r5 i rq acc [RP 3 r5 ((i : Int) + 1) (lieA an), RP 3 r5 ((i : Int) + 1) (lieA an)]) (.sl true ([RP 3 r5 ((i : Int) + 1) (lieA an), RP 3 r5 ((i : Int) + 1) (lieA an)].map Rp.T)) (.sl true (acc.map An.T)) true true (.refl _) (.refl _) (facts (acc := acc) h9_5 h15_5 h5 (by omega) hlen hall).c2 (by show acc.length ≤ 1000; omega)) rfl rfl rfl rfl rfl rfl ?_
          refine rnot (c := true) rfl rfl rfl rfl rfl ?_
          refine rpk (e := false) rfl rfl rfl rfl rfl rfl ?_
          refine rmB rfl rfl rfl rfl rfl ?_
          refine rfa (off := 2) (s := 1) (r := false) rfl rfl rfl (Nat.succ_ne_zero _) rfl rfl rfl ?_
          (apply rlc (v := .bool true) rfl rfl; (first | ((simp (disch := omega) only [↓app0, ↓appC, ↓updS, ↓updN, ↓hpS, ↓hpN]) <;> first | rfl | assumption) | assumption | rfl); rfl; rfl; rfl; rfl; rfl; rfl)
          refine rmI rfl rfl rfl rfl rfl ?_
          refine rlt rfl rfl rfl rfl rfl rfl ?_ (fun h => absurd (by decide) h)
          intro h27_15
          refine rbne (c := true) (e := true) rfl rfl rfl rfl rfl rfl rfl ?_
          refine rpk (e := false) rfl rfl rfl rfl rfl rfl ?_
          refine rNil ?_
          refine qSeq ?_
          refine wF rfl ?_
          refine wSkip ?_
          refine qSeq ?_
          refine wRegion ?_
          (apply rlr (vs := [.int _ _, .int _ _, .bool _, .int _ _, .int _ _, .int _ _, .int _ _, .str _, _, _]) rfl rfl; (first | ((simp (disch := omega) only [↓app0, ↓appC, ↓updS, ↓updN, ↓hpS, ↓hpN]) <;> first | rfl | assumption) | assumption | rfl); rfl; rfl; (exact Nat.le_of_ble_eq_true rfl); rfl; rfl; rfl; rfl)
          (apply rst (u := .agg [.int _ _, .int _ _, .bool _, .int _ _, .int _ _, .int _ _, .int _ _, .str _, _, _]) rfl rfl rfl; (first | ((simp (disch := omega) only [↓app0, ↓appC, ↓updS, ↓updN, ↓hpS, ↓hpN]) <;> first | rfl | assumption) | assumption | rfl); rfl; rfl; rfl; rfl; rfl; (exact Nat.le_of_ble_eq_true rfl); rfl; rfl; rfl)
          refine rNil ?_
          refine qBlock ?_
          refine qSeq ?_
          refine wRegion ?_
          refine rmI rfl rfl rfl rfl rfl ?_
          refine raddF rfl rfl rfl ?_ ?_ rfl rfl rfl ?_
          · (first | omega | (have hq := h15_5.2.1; omega))
          · (first | omega | (have hq := h15_5.2.1; omega))
          refine raI rfl rfl rfl rfl rfl ?_
          refine rNil ?_
          refine qLoop ?_
          refine lStep ?_
          refine wSeq ?_
          refine wSeq ?_
          refine wRegion ?_
          refine rmI rfl rfl rfl rfl rfl ?_
          refine rlt rfl rfl rfl rfl rfl rfl ?_ (fun h => absurd (by decide) h)
          intro h19_1
          refine rNil ?_
          refine qSeq ?_
          refine wT rfl ?_
          refine wSkip ?_
          refine qSeq ?_
          refine wSeq ?_
          refine wBlock ?_
          refine wSeq ?_
          refine wRegion ?_
          refine rbs (es := [[.int _ _], [.int _ _], [.int _ _], [.int _ _]]) rfl rfl rfl rfl (Nat.succ_ne_zero _) (Nat.le_of_ble_eq_true rfl) rfl rfl rfl rfl rfl ?_
          refine rmI rfl rfl rfl rfl rfl ?_
          (apply rixv rfl rfl rfl rfl; (first | ((simp (disch := omega) only [↓app0, ↓appC, ↓updS, ↓updN, ↓hpS, ↓hpN]) <;> first | rfl | assumption) | assumption | rfl); rfl; (first | omega | assumption | (focus (simp; omega))); (first | omega | assumption | (focus (simp; omega))); rfl; rfl; rfl)
          (apply rlc (v := .int _ _) rfl rfl; (first | ((simp (disch := omega) only [↓app0, ↓appC, ↓updS, ↓updN, ↓hpS, ↓hpN]) <;> first | rfl | assumption) | assumption | rfl); rfl; rfl; rfl; rfl; rfl; rfl)
          refine raI rfl rfl rfl rfl rfl ?_
          refine rNil ?_
          refine qSeq ?_
          refine wSeq ?_
          refine wRegion ?_
          (apply rlr (vs := [.int _ _, .int _ _, .int _ _, .int _ _]) rfl rfl; (first | ((simp (disch := omega) only [↓app0, ↓appC, ↓updS, ↓updN, ↓hpS, ↓hpN]) <;> first | rfl | assumption) | assumption | rfl); rfl; rfl; (exact Nat.le_of_ble_eq_true rfl); rfl; rfl; rfl; rfl)
          refine ral rfl rfl rfl rfl rfl rfl ?_
          (apply rst (u := .agg [.int _ _, .int _ _, .int _ _, .int _ _]) rfl rfl rfl; (first | ((simp (disch := omega) only [↓app0, ↓appC, ↓updS, ↓updN, ↓hpS, ↓hpN]) <;> first | rfl | assumption) | assumption | rfl); rfl; rfl; rfl; rfl; rfl; (exact Nat.le_of_ble_eq_true rfl); rfl; rfl; rfl)
          refine rNil ?_
          refine qSeq ?_
          refine wSeq ?_
          refine wSeq ?_
          refine wRegion ?_
          refine rmI rfl rfl rfl rfl rfl ?_
          refine rlt rfl rfl rfl rfl rfl rfl (fun h => absurd h (by decide)) ?_
          intro h23_1
          refine rNil ?_
          refine qSeq ?_
          refine wF rfl ?_
          refine wSkip ?_
          refine qSeq ?_
          refine wSeq ?_
          refine wRegion ?_
          refine rmI rfl rfl rfl rfl rfl ?_
          refine rfa (off := 0) (s := 1) (r := false) rfl rfl rfl (Nat.succ_ne_zero _) rfl rfl rfl ?_
          (apply rlc (v := .int _ _) rfl rfl; (first | ((simp (disch := omega) only [↓app0, ↓appC, ↓updS, ↓updN, ↓hpS, ↓hpN]) <;> first | rfl | assumption) | assumption | rfl); rfl; rfl; rfl; rfl; rfl; rfl)
          refine rfa (off := 1) (s := 1) (r := false) rfl rfl rfl (Nat.succ_ne_zero _) rfl rfl rfl ?_
          (apply rlc (v := .int _ _) rfl rfl; (first | ((simp (disch := omega) only [↓app0, ↓appC, ↓updS, ↓updN, ↓hpS, ↓hpN]) <;> first | rfl | assumption) | assumption | rfl); rfl; rfl; rfl; rfl; rfl; rfl)
          (apply rlr (vs := [.int _ _, .int _ _, .int _ _, .int _ _]) rfl rfl; (first | ((simp (disch := omega) only [↓app0, ↓appC, ↓updS, ↓updN, ↓hpS, ↓hpN]) <;> first | rfl | assumption) | assumption | rfl); rfl; rfl; (exact Nat.le_of_ble_eq_true rfl); rfl; rfl; rfl; rfl)
          refine rcl (p9 1 r5 ((i : Int) + 1) an (rpOk (.inl rfl) h5 (by omega) (anOK h15_5))) rfl rfl rfl rfl rfl rfl ?_
          refine rmT rfl rfl rfl rfl rfl ?_
          refine rex rfl rfl rfl rfl rfl rfl ?_
          refine rex rfl rfl rfl rfl rfl rfl ?_
          refine ral rfl rfl rfl rfl rfl rfl ?_
          (apply rst (u := .agg [.int _ _, .int _ _, .int _ _, .int _ _, .int _ _, .int _ _, .int _ _, .str _]) rfl rfl rfl; (first | ((simp (disch := omega) only [↓app0, ↓appC, ↓updS, ↓updN, ↓hpS, ↓hpN]) <;> first | rfl | assumption) | assumption | rfl); rfl; rfl; rfl; rfl; rfl; (exact Nat.le_of_ble_eq_true rfl); rfl; rfl; rfl)
          refine raI rfl rfl rfl rfl rfl ?_
          refine rNil ?_
          refine qSeq ?_
          refine wSeq ?_
          refine wRegion ?_
          (apply rlr (vs := [.int _ _, .int _ _, .bool _, .int _ _, .int _ _, .int _ _, .int _ _, .str _, _, _]) rfl rfl; (first | ((simp (disch := omega) only [↓app0, ↓appC, ↓updS, ↓updN, ↓hpS, ↓hpN]) <;> first | rfl | assumption) | assumption | rfl); rfl; rfl; (exact Nat.le_of_ble_eq_true rfl); rfl; rfl; rfl; rfl)
          (apply rlr (vs := [.int _ _, .int _ _, .int _ _, .int _ _, .int _ _, .int _ _, .int _ _, .str _]) rfl rfl; (first | ((simp (disch := omega) only [↓app0, ↓appC, ↓updS, ↓updN, ↓hpS, ↓hpN]) <;> first | rfl | assumption) | assumption | rfl); rfl; rfl; (exact Nat.le_of_ble_eq_true rfl); rfl; rfl; rfl; rfl)
          refine rcl (p10VVu 4 (CK r5 i rq acc [RP 3 r5 ((i : Int) + 1) (lieA an), RP 3 r5 ((i : Int) + 1) (lieA an)]) (RP 1 r5 ((i : Int) + 1) an) (facts (acc := acc) h9_5 h15_5 h5 (by omega) hlen hall).c2 rfl (rpOK (.inl rfl) h5 (by omega) (anOK h15_5)) (Nat.le_of_ble_eq_true rfl) (by show acc.length ≤ 1000; omega) (facts (acc := acc) h9_5 h15_5 h5 (by omega) hlen hall).d3) rfl rfl rfl rfl rfl rfl ?_
          refine rmT rfl rfl rfl rfl rfl ?_
          refine rex rfl rfl rfl rfl rfl rfl ?_
          refine rex rfl rfl rfl rfl rfl rfl ?_
          refine ral rfl rfl rfl rfl rfl rfl ?_
          (apply rst (u := .agg [.int _ _, .int _ _, .bool _, .int _ _, .int _ _, .int _ _, .int _ _, .str _, _, _]) rfl rfl rfl; (first | ((simp (disch := omega) only [↓app0, ↓appC, ↓updS, ↓updN, ↓hpS, ↓hpN]) <;> first | rfl | assumption) | assumption | rfl); rfl; rfl; rfl; rfl; rfl; (exact Nat.le_of_ble_eq_true rfl); rfl; rfl; rfl)
          refine raI rfl rfl rfl rfl rfl ?_
          refine rNil ?_
          refine qSeq ?_
          refine wSeq ?_
          refine wSeq ?_
          refine wRegion ?_
          refine rmI rfl rfl rfl rfl rfl ?_
          refine rne rfl rfl rfl rfl rfl rfl (fun h => absurd h (by decide)) ?_
          intro h27_1
          refine rmB rfl rfl rfl rfl rfl ?_
          refine rmI rfl rfl rfl rfl rfl ?_
          refine rne rfl rfl rfl rfl rfl rfl (fun h => absurd h (by decide)) ?_
          intro h27_4
          refine rpk (e := false) rfl rfl rfl rfl rfl rfl ?_
          refine rmB rfl rfl rfl rfl rfl ?_
          (apply rlr (vs := [.int _ _, .int _ _, .bool _, .int _ _, .int _ _, .int _ _, .int _ _, .str _, _, _]) rfl rfl; (first | ((simp (disch := omega) only [↓app0, ↓appC, ↓updS, ↓updN, ↓hpS, ↓hpN]) <;> first | rfl | assumption) | assumption | rfl); rfl; rfl; (exact Nat.le_of_ble_eq_true rfl); rfl; rfl; rfl; rfl)
          refine rcl (p11U 4 (CK r5 i rq acc [RP 3 r5 ((i : Int) + 1) (lieA an), RP 3 r5 ((i : Int) + 1) (lieA an), RP 1 r5 ((i : Int) + 1) an]) (.sl true ([RP 3 r5 ((i : Int) + 1) (lieA an), RP 3 r5 ((i : Int) + 1) (lieA an), RP 1 r5 ((i : Int) + 1) an].map Rp.T)) (.sl true (acc.map An.T)) true true (.refl _) (.refl _) (facts (acc := acc) h9_5 h15_5 h5 (by omega) hlen hall).c3 (by show acc.length ≤ 1000; omega)) rfl rfl rfl rfl rfl rfl ?_
          refine rnot (c := true) rfl rfl rfl rfl rfl ?_
          refine rpk (e := false) rfl rfl rfl rfl rfl rfl ?_
          refine rmB rfl rfl rfl rfl rfl ?_
          refine rfa (off := 2) (s := 1) (r := false) rfl rfl rfl (Nat.succ_ne_zero _) rfl rfl rfl ?_
          (apply rlc (v := .bool true) rfl rfl; (first | ((simp (disch := omega) only [↓app0, ↓appC, ↓updS, ↓updN, ↓hpS, ↓hpN]) <;> first | rfl | assumption) | assumption | rfl); rfl; rfl; rfl; rfl; rfl; rfl)
          refine rmI rfl rfl rfl rfl rfl ?_
          refine rlt rfl rfl rfl rfl rfl rfl ?_ (fun h => absurd (by decide) h)
          intro h27_15
          refine rbne (c := true) (e := true) rfl rfl rfl rfl rfl rfl rfl ?_
          refine rpk (e := false) rfl rfl rfl rfl rfl rfl ?_
          refine rNil ?_
          refine qSeq ?_
          refine wF rfl ?_
          refine wSkip ?_
          refine qSeq ?_
          refine wRegion ?_
          (apply rlr (vs := [.int _ _, .int _ _, .bool _, .int _ _, .int _ _, .int _ _, .int _ _, .str _, _, _]) rfl rfl; (first | ((simp (disch := omega) only [↓app0, ↓appC, ↓updS, ↓updN, ↓hpS, ↓hpN]) <;> first | rfl | assumption) | assumption | rfl); rfl; rfl; (exact Nat.le_of_ble_eq_true rfl); rfl; rfl; rfl; rfl)
          (apply rst (u := .agg [.int _ _, .int _ _, .bool _, .int _ _, .int _ _, .int _ _, .int _ _, .str _, _, _]) rfl rfl rfl; (first | ((simp (disch := omega) only [↓app0, ↓appC, ↓updS, ↓updN, ↓hpS, ↓hpN]) <;> first | rfl | assumption) | assumption | rfl); rfl; rfl; rfl; rfl; rfl; (exact Nat.le_of_ble_eq_true rfl); rfl; rfl; rfl)
          refine rNil ?_
          refine qBlock ?_
          refine qSeq ?_
          refine wRegion ?_
          refine rmI rfl rfl rfl rfl rfl ?_
          refine raddF rfl rfl rfl ?_ ?_ rfl rfl rfl ?_
          · (first | omega | (have hq := h15_5.2.1; omega))
          · (first | omega | (have hq := h15_5.2.1; omega))
          refine raI rfl rfl rfl rfl rfl ?_
          refine rNil ?_
          refine qLoop ?_
          refine lStep ?_
          refine wSeq ?_
          refine wSeq ?_
          refine wRegion ?_
          refine rmI rfl rfl rfl rfl rfl ?_
          refine rlt rfl rfl rfl rfl rfl rfl ?_ (fun h => absurd (by decide) h)
          intro h19_1
          refine rNil ?_
          refine qSeq ?_
          refine wT rfl ?_
          refine wSkip ?_
          refine qSeq ?_
          refine wSeq ?_
          refine wBlock ?_
          refine wSeq ?_
          refine wRegion ?_
          refine rbs (es := [[.int _ _], [.int _ _], [.int _ _], [.int _ _]]) rfl rfl rfl rfl (Nat.succ_ne_zero _) (Nat.le_of_ble_eq_true rfl) rfl rfl rfl rfl rfl ?_
          refine rmI rfl rfl rfl rfl rfl ?_
          (apply rixv rfl rfl rfl rfl; (first | ((simp (disch := omega) only [↓app0, ↓appC, ↓updS, ↓updN, ↓hpS, ↓hpN]) <;> first | rfl | assumption) | assumption | rfl); rfl; (first | omega | assumption | (focus (simp; omega))); (first | omega | assumption | (focus (simp; omega))); rfl; rfl; rfl)
          (apply rlc (v := .int _ _) rfl rfl; (first | ((simp (disch := omega) only [↓app0, ↓appC, ↓updS, ↓updN, ↓hpS, ↓hpN]) <;> first | rfl | assumption) | assumption | rfl); rfl; rfl; rfl; rfl; rfl; rfl)
          refine raI rfl rfl rfl rfl rfl ?_
          refine rNil ?_
          refine qSeq ?_
          refine wSeq ?_
          refine wRegion ?_
          (apply rlr (vs := [.int _ _, .int _ _, .int _ _, .int _ _]) rfl rfl; (first | ((simp (disch := omega) only [↓app0, ↓appC, ↓updS, ↓updN, ↓hpS, ↓hpN]) <;> first | rfl | assumption) | assumption | rfl); rfl; rfl; (exact Nat.le_of_ble_eq_true rfl); rfl; rfl; rfl; rfl)
          refine ral rfl rfl rfl rfl rfl rfl ?_
          (apply rst (u := .agg [.int _ _, .int _ _, .int _ _, .int _ _]) rfl rfl rfl; (first | ((simp (disch := omega) only [↓app0, ↓appC, ↓updS, ↓updN, ↓hpS, ↓hpN]) <;> first | rfl | assumption) | assumption | rfl); rfl; rfl; rfl; rfl; rfl; (exact Nat.le_of_ble_eq_true rfl); rfl; rfl; rfl)
          refine rNil ?_
          refine qSeq ?_
          refine wSeq ?_
          refine wSeq ?_
          refine wRegion ?_
          refine rmI rfl rfl rfl rfl rfl ?_
          refine rlt rfl rfl rfl rfl rfl rfl (fun h => absurd h (by decide)) ?_
          intro h23_1
          refine rNil ?_
          refine qSeq ?_
          refine wF rfl ?_
          refine wSkip ?_
          refine qSeq ?_
          refine wSeq ?_
          refine wRegion ?_
          refine rmI rfl rfl rfl rfl rfl ?_
          refine rfa (off := 0) (s := 1) (r := false) rfl rfl rfl (Nat.succ_ne_zero _) rfl rfl rfl ?_
          (apply rlc (v := .int _ _) rfl rfl; (first | ((simp (disch := omega) only [↓app0, ↓appC, ↓updS, ↓updN, ↓hpS, ↓hpN]) <;> first | rfl | assumption) | assumption | rfl); rfl; rfl; rfl; rfl; rfl; rfl)
          refine rfa (off := 1) (s := 1) (r := false) rfl rfl rfl (Nat.succ_ne_zero _) rfl rfl rfl ?_
          (apply rlc (v := .int _ _) rfl rfl; (first | ((simp (disch := omega) only [↓app0, ↓appC, ↓updS, ↓updN, ↓hpS, ↓hpN]) <;> first | rfl | assumption) | assumption | rfl); rfl; rfl; rfl; rfl; rfl; rfl)
          (apply rlr (vs := [.int _ _, .int _ _, .int _ _, .int _ _]) rfl rfl; (first | ((simp (disch := omega) only [↓app0, ↓appC, ↓updS, ↓updN, ↓hpS, ↓hpN]) <;> first | rfl | assumption) | assumption | rfl); rfl; rfl; (exact Nat.le_of_ble_eq_true rfl); rfl; rfl; rfl; rfl)
          refine rcl (p9 2 r5 ((i : Int) + 1) an (rpOk (.inr (.inl rfl)) h5 (by omega) (anOK h15_5))) rfl rfl rfl rfl rfl rfl ?_
          refine rmT rfl rfl rfl rfl rfl ?_
          refine rex rfl rfl rfl rfl rfl rfl ?_
          refine rex rfl rfl rfl rfl rfl rfl ?_
          refine ral rfl rfl rfl rfl rfl rfl ?_
          (apply rst (u := .agg [.int _ _, .int _ _, .int _ _, .int _ _, .int _ _, .int _ _, .int _ _, .str _]) rfl rfl rfl; (first | ((simp (disch := omega) only [↓app0, ↓appC, ↓updS, ↓updN, ↓hpS, ↓hpN]) <;> first | rfl | assumption) | assumption | rfl); rfl; rfl; rfl; rfl; rfl; (exact Nat.le_of_ble_eq_true rfl); rfl; rfl; rfl)
          refine raI rfl rfl rfl rfl rfl ?_
          refine rNil ?_
          refine qSeq ?_
          refine wSeq ?_
          refine wRegion ?_
          (apply rlr (vs := [.int _ _, .int _ _, .bool _, .int _ _, .int _ _, .int _ _, .int _ _, .str _, _, _]) rfl rfl; (first | ((simp (disch := omega) only [↓app0, ↓appC, ↓updS, ↓updN, ↓hpS, ↓hpN]) <;> first | rfl | assumption) | assumption | rfl); rfl; rfl; (exact Nat.le_of_ble_eq_true rfl); rfl; rfl; rfl; rfl)
          (apply rlr (vs := [.int _ _, .int _ _, .int _ _, .int _ _, .int _ _, .int _ _, .int _ _, .str _]) rfl rfl; (first | ((simp (disch := omega) only [↓app0, ↓appC, ↓updS, ↓updN, ↓hpS, ↓hpN]) <;> first | rfl | assumption) | assumption | rfl); rfl; rfl; (exact Nat.le_of_ble_eq_true rfl); rfl; rfl; rfl; rfl)
          refine rcl (p10VVd 4 (CK r5 i rq acc [RP 3 r5 ((i : Int) + 1) (lieA an), RP 3 r5 ((i : Int) + 1) (lieA an), RP 1 r5 ((i : Int) + 1) an]) (RP 2 r5 ((i : Int) + 1) an) (facts (acc := acc) h9_5 h15_5 h5 (by omega) hlen hall).c3 rfl (rpOK (.inr (.inl rfl)) h5 (by omega) (anOK h15_5)) (Nat.le_of_ble_eq_true rfl) (by show acc.length ≤ 1000; omega) an (facts (acc := acc) h9_5 h15_5 h5 (by omega) hlen hall).d4) rfl rfl rfl rfl rfl rfl ?_
          refine rmT rfl rfl rfl rfl rfl ?_
          refine rex rfl rfl rfl rfl rfl rfl ?_
          refine rex rfl rfl rfl rfl rfl rfl ?_
          refine ral rfl rfl rfl rfl rfl rfl ?_
          (apply rst (u := .agg [.int _ _, .int _ _, .bool _, .int _ _, .int _ _, .int _ _, .int _ _, .str _, _, _]) rfl rfl rfl; (first | ((simp (disch := omega) only [↓app0, ↓appC, ↓updS, ↓updN, ↓hpS, ↓hpN]) <;> first | rfl | assumption) | assumption | rfl); rfl; rfl; rfl; rfl; rfl; (exact Nat.le_of_ble_eq_true rfl); rfl; rfl; rfl)
          refine raI rfl rfl rfl rfl rfl ?_
          refine rNil ?_
          refine qSeq ?_
          refine wSeq ?_
          refine wSeq ?_
          refine wRegion ?_
          refine rmI rfl rfl rfl rfl rfl ?_
          refine rne rfl rfl rfl rfl rfl rfl (fun h => absurd h (by decide)) ?_
          intro h27_1
          refine rmB rfl rfl rfl rfl rfl ?_
          refine rmI rfl rfl rfl rfl rfl ?_
          refine rne rfl rfl rfl rfl rfl rfl (fun h => absurd h (by decide)) ?_
          intro h27_4
          refine rpk (e := false) rfl rfl rfl rfl rfl rfl ?_
          refine rmB rfl rfl rfl rfl rfl ?_
          (apply rlr (vs := [.int _ _, .int _ _, .bool _, .int _ _, .int _ _, .int _ _, .int _ _, .str _, _, _]) rfl rfl; (first | ((simp (disch := omega) only [↓app0, ↓appC, ↓updS, ↓updN, ↓hpS, ↓hpN]) <;> first | rfl | assumption) | assumption | rfl); rfl; rfl; (exact Nat.le_of_ble_eq_true rfl); rfl; rfl; rfl; rfl)
          refine rcl (p11U 4 (Cl.mk r5 ((i + 1 : Nat) : Int) false Rq0 [] (acc ++ [an])) .nsl (.sl true ((acc ++ [an]).map An.T)) false true (twN Rp.T rfl) (.refl _) (idleOK (i := i + 1) h5 (by omega) (by rw [List.length_append, hlen]; rfl) (okApp hall (anOK h15_5))) (by rw [List.length_append, hlen]; show i + 1 ≤ 1000; omega)) rfl rfl rfl rfl rfl rfl ?_
          refine rnot (c := true) rfl rfl rfl rfl rfl ?_
          refine rpk (e := false) rfl rfl rfl rfl rfl rfl ?_
          refine rmB rfl rfl rfl rfl rfl ?_
          refine rfa (off := 2) (s := 1) (r := false) rfl rfl rfl (Nat.succ_ne_zero _) rfl rfl rfl ?_
          (apply rlc (v := .bool false) rfl rfl; (first | ((simp (disch := omega) only [↓app0, ↓appC, ↓updS, ↓updN, ↓hpS, ↓hpN]) <;> first | rfl | assumption) | assumption | rfl); rfl; rfl; rfl; rfl; rfl; rfl)
          refine rmI rfl rfl rfl rfl rfl ?_
          refine rlt rfl rfl rfl rfl rfl rfl (fun h => absurd h (by decide)) ?_
          intro h27_15
          refine rbne (c := false) (e := false) rfl rfl rfl rfl rfl rfl rfl ?_
          refine rpk (e := false) rfl rfl rfl rfl rfl rfl ?_
          refine rNil ?_
          refine qSeq ?_
          refine wF rfl ?_
          refine wSkip ?_
          refine qSeq ?_
          refine wRegion ?_
          (apply rlr (vs := [.int _ _, .int _ _, .bool _, .int _ _, .int _ _, .int _ _, .int _ _, .str _, _, _]) rfl rfl; (first | ((simp (disch := omega) only [↓app0, ↓appC, ↓updS, ↓updN, ↓hpS, ↓hpN]) <;> first | rfl | assumption) | assumption | rfl); rfl; rfl; (exact Nat.le_of_ble_eq_true rfl); rfl; rfl; rfl; rfl)
          (apply rst (u := .agg [.int _ _, .int _ _, .bool _, .int _ _, .int _ _, .int _ _, .int _ _, .str _, _, _]) rfl rfl rfl; (first | ((simp (disch := omega) only [↓app0, ↓appC, ↓updS, ↓updN, ↓hpS, ↓hpN]) <;> first | rfl | assumption) | assumption | rfl); rfl; rfl; rfl; rfl; rfl; (exact Nat.le_of_ble_eq_true rfl); rfl; rfl; rfl)
          refine rNil ?_
          refine qBlock ?_
          refine qSeq ?_
          refine wRegion ?_
          refine rmI rfl rfl rfl rfl rfl ?_
          refine raddF rfl rfl rfl ?_ ?_ rfl rfl rfl ?_
          · (first | omega | (have hq := h15_5.2.1; omega))
          · (first | omega | (have hq := h15_5.2.1; omega))
          refine raI rfl rfl rfl rfl rfl ?_
          refine rNil ?_
          refine qLoop ?_
          refine lStep ?_
          refine wSeq ?_
          refine wSeq ?_
          refine wRegion ?_
          refine rmI rfl rfl rfl rfl rfl ?_
          refine rlt rfl rfl rfl rfl rfl rfl (fun h => absurd h (by decide)) ?_
          intro h19_1
          refine rNil ?_
          refine qSeq ?_
          refine wF rfl ?_
          refine wExit ?_
          refine qSeqX ?_
          refine qLoopX ?_
          refine qBlockX ?_
          refine qSeq ?_
          refine wSeq ?_
          refine wDraw [0, 1, 3, 0, 8, 31, 63, 127, 255, 127, 1023, 2047, 127, 8191, 16383] rfl (by decide +kernel) ?_
          refine dfa (off := 9) (s := 1) (r := false) rfl rfl rfl (Nat.succ_ne_zero _) rfl rfl rfl ?_
          (apply dlc  rfl rfl; (first | ((simp (disch := omega) only [↓app0, ↓appC, ↓updS, ↓updN, ↓hpS, ↓hpN]) <;> first | rfl | assumption) | assumption | rfl); rfl; rfl; rfl; rfl; rfl; rfl)
          refine dll rfl rfl rfl rfl rfl rfl ?_
          refine dmI rfl rfl rfl rfl rfl ?_
          refine daddF rfl rfl rfl ?_ ?_ rfl rfl rfl ?_
          · (first | omega | (have hq := h15_5.2.1; omega))
          · (first | omega | (have hq := h15_5.2.1; omega))
          refine dne rfl rfl rfl rfl rfl rfl (fun h => absurd h (by rw [List.length_map, List.length_append]; show ¬ (((acc : List An).length + 1 : Nat) : Int) ≠ (i : Int) + 1; rw [hlen]; exact fun h => h rfl)) ?_
          intro h30_5
          refine dmB rfl rfl rfl rfl rfl ?_
          refine dfa (off := 9) (s := 1) (r := false) rfl rfl rfl (Nat.succ_ne_zero _) rfl rfl rfl ?_
          (apply dlc  rfl rfl; (first | ((simp (disch := omega) only [↓app0, ↓appC, ↓updS, ↓updN, ↓hpS, ↓hpN]) <;> first | rfl | assumption) | assumption | rfl); rfl; rfl; rfl; rfl; rfl; rfl)
          refine dmI rfl rfl rfl rfl rfl ?_
          (apply dixl rfl rfl rfl rfl; (first | omega | assumption | (focus (simp; omega))); (first | rfl | assumption | (exact lastGet hlen)); rfl; rfl; rfl; rfl)
          refine dlir (vs := [.int _ _, .int _ _, .int _ _, .int _ _]) rfl rfl rfl (Nat.le_of_ble_eq_true rfl) rfl rfl rfl rfl ?_
          (apply dlr (vs := [.int _ _, .int _ _, .int _ _, .int _ _]) rfl rfl; (first | ((simp (disch := omega) only [↓app0, ↓appC, ↓updS, ↓updN, ↓hpS, ↓hpN]) <;> first | rfl | assumption) | assumption | rfl); rfl; rfl; (exact Nat.le_of_ble_eq_true rfl); rfl; rfl; rfl; rfl)
          refine dSneq rfl rfl rfl (by kernel_rfl) (eqAn an an) rfl rfl rfl (fun h => absurd h (by simp)) ?_
          intro h30_13
          refine dpk (e := false) rfl rfl rfl rfl rfl rfl ?_
          refine dNilR 15 [0, 0, 1, 0, 0, 0, 1, 0, 0, 0, 0, 0, 0, 1, 0] [] rfl rfl (by decide +kernel) trivial ?_
          refine qSeq ?_
          refine wF rfl ?_
          refine wSkip ?_
          refine qBlock ?_
          refine qSeq ?_
          refine wRegion ?_
          refine rmI rfl rfl rfl rfl rfl ?_
          refine raddF rfl rfl rfl ?_ ?_ rfl rfl rfl ?_
          · (first | omega | (have hq := h15_5.2.1; omega))
          · (first | omega | (have hq := h15_5.2.1; omega))
          refine raI rfl rfl rfl rfl rfl ?_
          refine rNil ?_
          refine qLoop ?_
          exact wlH (ih (i + 1, acc ++ [an], .sl true true ((acc ++ [an]).map An.T), N + 25) ⟨by dsimp only; omega, by dsimp only; omega, by dsimp only; rw [List.length_append, hlen]; rfl, okApp hall (anOK h15_5), .inr rfl⟩ (by dsimp only; omega)) (by (repeat first | exact LE.nil _ | refine LE.unk _ _ ?_ | refine LE.eq _ _ _ rfl ?_)) (by (repeat first | exact lessH0 | (refine lessHc ?_ ?_; (first | (first | ((simp (disch := omega) only [↓app0, ↓appC, ↓updS, ↓updN, ↓hpS, ↓hpN]) <;> first | rfl | assumption) | assumption | rfl) | fail)))) (Nat.le_refl _)
        · refine rNil ?_
          refine qSeq ?_
          refine wF rfl ?_
          refine wExit ?_
          refine qSeqX ?_
          refine qLoopX ?_
          refine qBlockX ?_
          refine qSeq ?_
          refine wSeq ?_
          refine wRegion ?_
          refine raB rfl rfl rfl rfl rfl ?_
          refine rNil ?_
          refine qSeq ?_
          refine wRet ?_
          exact fin rfl rfl
end Go.Proofs.YtnkpjlpappmccaaDoor
