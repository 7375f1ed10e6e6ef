import Derived.Test.YtcafccndgpopkaaDoorT15
namespace Go.Proofs.YtcafccndgpopkaaDoor
open Go.V
set_option linter.unusedVariables false
set_option linter.unusedSimpArgs false
set_option maxRecDepth 20000
set_option maxHeartbeats 4000000

/-! the law's own: marks that are still there. -/
theorem s38 (nn : Bool) (k : Int) (m : Nat) (hk : 0 ≤ k ∧ k ≤ 100000000) (hm : m ≤ 1048577) : Pure En 38 [.one (.sl nn ((MR k m).map Rp.T)), .one (.int .i64 k)] [.one (.int .i64 (k + 8 * (m : Int)))] := by
  have hl : ((MR k m).map Rp.T).length = m := by rw [List.length_map, MR_len]
  refine Pure.of_wp Tryd.func38 rfl (Nat.le_of_ble_eq_true rfl) ?_
  refine wSeq ?_
  refine wRegion ?_
  refine raI rfl rfl rfl rfl rfl ?_
  refine rNil ?_
  refine qSeq ?_
  refine wSeq ?_
  refine wSeq ?_
  refine wRegion ?_
  refine raI rfl rfl rfl rfl rfl ?_
  refine rNil ?_
  refine qSeq ?_
  refine wBlock ?_
  refine wLoop ?_
  refine loopGo0 (fun (a : Nat × Int) => [.sl false nn ((MR k m).map Rp.T), .int .i64 a.2, .unk, .unk, .unk, .int .i64 a.1]) (fun (a : Nat × Int) => a.1 ≤ m ∧ a.2 = k + 8 * (a.1 : Int)) (fun (a : Nat × Int) => m - a.1) (0, k) ?_ ?_ ?_
  · exact ⟨Nat.zero_le _, by dsimp only; omega⟩
  · (repeat first | exact LE.nil _ | refine LE.unk _ _ ?_ | refine LE.eq _ _ _ rfl ?_)
  intro ⟨i, y⟩ hI ih
  dsimp only at hI ⊢
  have hx : i < m → ((MR k m).map Rp.T)[i]? = some (mRy y).T := fun h => by
    rw [mapGet Rp.T Rp0 (show i < (MR k m).length by rw [MR_len]; exact h), MR_get h, hI.2]
  refine lStep ?_
  refine wSeq ?_
  refine wSeq ?_
  refine wRegion ?_
  refine rmI rfl rfl rfl rfl rfl ?_
  refine rmL rfl rfl rfl rfl rfl ?_
  refine rll rfl rfl rfl rfl rfl rfl ?_
  refine rlt rfl rfl rfl rfl rfl rfl ?_ ?_ <;> intro h2_3
  · refine rNil ?_
    refine qSeq ?_
    refine wT rfl ?_
    refine wSkip ?_
    refine qSeq ?_
    refine wSeq ?_
    refine wBlock ?_
    refine wSeq ?_
    refine wSeq ?_
    refine wRegion ?_
    refine rmL rfl rfl rfl rfl rfl ?_
    refine rmI rfl rfl rfl rfl rfl ?_
    (apply rixl rfl rfl rfl rfl; (first | omega | assumption | (focus (simp; omega))); (first | rfl | assumption | exact hx (by omega)); rfl; rfl; rfl; rfl)
    refine rfai (off := 0) (s := 1) (r := false) rfl rfl rfl (Nat.succ_ne_zero _) rfl rfl rfl rfl ?_
    refine rlic (v := .int _ _) rfl rfl rfl rfl rfl rfl rfl rfl ?_
    refine rmI rfl rfl rfl rfl rfl ?_
    refine rne rfl rfl rfl rfl rfl rfl (fun h => absurd h ((fun hh => hh rfl))) ?_
    intro h4_6
    refine rNil ?_
    refine qSeq ?_
    refine wF rfl ?_
    refine wSkip ?_
    refine qSeq ?_
    refine wSeq ?_
    refine wRegion ?_
    refine rmI rfl rfl rfl rfl rfl ?_
    refine raddF rfl rfl rfl ?_ ?_ rfl rfl rfl ?_
    · omega
    · omega
    refine raI rfl rfl rfl rfl rfl ?_
    refine rNil ?_
    refine qSeq ?_
    refine wSeq ?_
    refine wSeq ?_
    refine wRegion ?_
    refine rmL rfl rfl rfl rfl rfl ?_
    refine rmI rfl rfl rfl rfl rfl ?_
    (apply rixl rfl rfl rfl rfl; (first | omega | assumption | (focus (simp; omega))); (first | rfl | assumption | exact hx (by omega)); rfl; rfl; rfl; rfl)
    refine rfai (off := 1) (s := 1) (r := false) rfl rfl rfl (Nat.succ_ne_zero _) rfl rfl rfl rfl ?_
    refine rlic (v := .int _ _) rfl rfl rfl rfl rfl rfl rfl rfl ?_
    refine rmI rfl rfl rfl rfl rfl ?_
    refine rne rfl rfl rfl rfl rfl rfl (fun h => absurd h ((fun hh => hh rfl))) ?_
    intro h7_6
    refine rNil ?_
    refine qSeq ?_
    refine wF rfl ?_
    refine wSkip ?_
    refine qSeq ?_
    refine wSeq ?_
    refine wRegion ?_
    refine rmI rfl rfl rfl rfl rfl ?_
    refine raddF rfl rfl rfl ?_ ?_ rfl rfl rfl ?_
    · omega
    · omega
    refine raI rfl rfl rfl rfl rfl ?_
    refine rNil ?_
    refine qSeq ?_
    refine wSeq ?_
    refine wSeq ?_
    refine wRegion ?_
    refine rmL rfl rfl rfl rfl rfl ?_
    refine rmI rfl rfl rfl rfl rfl ?_
    (apply rixl rfl rfl rfl rfl; (first | omega | assumption | (focus (simp; omega))); (first | rfl | assumption | exact hx (by omega)); rfl; rfl; rfl; rfl)
    refine rfai (off := 2) (s := 1) (r := false) rfl rfl rfl (Nat.succ_ne_zero _) rfl rfl rfl rfl ?_
    refine rlic (v := .int _ _) rfl rfl rfl rfl rfl rfl rfl rfl ?_
    refine rmI rfl rfl rfl rfl rfl ?_
    refine rne rfl rfl rfl rfl rfl rfl (fun h => absurd h ((fun hh => hh rfl))) ?_
    intro h10_6
    refine rNil ?_
    refine qSeq ?_
    refine wF rfl ?_
    refine wSkip ?_
    refine qSeq ?_
    refine wSeq ?_
    refine wRegion ?_
    refine rmI rfl rfl rfl rfl rfl ?_
    refine raddF rfl rfl rfl ?_ ?_ rfl rfl rfl ?_
    · omega
    · omega
    refine raI rfl rfl rfl rfl rfl ?_
    refine rNil ?_
    refine qSeq ?_
    refine wSeq ?_
    refine wSeq ?_
    refine wRegion ?_
    refine rmL rfl rfl rfl rfl rfl ?_
    refine rmI rfl rfl rfl rfl rfl ?_
    (apply rixl rfl rfl rfl rfl; (first | omega | assumption | (focus (simp; omega))); (first | rfl | assumption | exact hx (by omega)); rfl; rfl; rfl; rfl)
    refine rfai (off := 3) (s := 4) (r := true) rfl rfl rfl (Nat.succ_ne_zero _) rfl rfl rfl rfl ?_
    refine rfai (off := 0) (s := 1) (r := false) rfl rfl rfl (Nat.succ_ne_zero _) rfl rfl rfl rfl ?_
    refine rlic (v := .int _ _) rfl rfl rfl rfl rfl rfl rfl rfl ?_
    refine rmI rfl rfl rfl rfl rfl ?_
    refine rne rfl rfl rfl rfl rfl rfl (fun h => absurd h ((fun hh => hh rfl))) ?_
    intro h13_7
    refine rNil ?_
    refine qSeq ?_
    refine wF rfl ?_
    refine wSkip ?_
    refine qSeq ?_
    refine wSeq ?_
    refine wRegion ?_
    refine rmI rfl rfl rfl rfl rfl ?_
    refine raddF rfl rfl rfl ?_ ?_ rfl rfl rfl ?_
    · omega
    · omega
    refine raI rfl rfl rfl rfl rfl ?_
    refine rNil ?_
    refine qSeq ?_
    refine wSeq ?_
    refine wSeq ?_
    refine wRegion ?_
    refine rmL rfl rfl rfl rfl rfl ?_
    refine rmI rfl rfl rfl rfl rfl ?_
    (apply rixl rfl rfl rfl rfl; (first | omega | assumption | (focus (simp; omega))); (first | rfl | assumption | exact hx (by omega)); rfl; rfl; rfl; rfl)
    refine rfai (off := 3) (s := 4) (r := true) rfl rfl rfl (Nat.succ_ne_zero _) rfl rfl rfl rfl ?_
    refine rfai (off := 1) (s := 1) (r := false) rfl rfl rfl (Nat.succ_ne_zero _) rfl rfl rfl rfl ?_
    refine rlic (v := .int _ _) rfl rfl rfl rfl rfl rfl rfl rfl ?_
    refine rmI rfl rfl rfl rfl rfl ?_
    refine rne rfl rfl rfl rfl rfl rfl (fun h => absurd h ((fun hh => hh rfl))) ?_
    intro h16_7
    refine rNil ?_
    refine qSeq ?_
    refine wF rfl ?_
    refine wSkip ?_
    refine qSeq ?_
    refine wSeq ?_
    refine wRegion ?_
    refine rmI rfl rfl rfl rfl rfl ?_
    refine raddF rfl rfl rfl ?_ ?_ rfl rfl rfl ?_
    · omega
    · omega
    refine raI rfl rfl rfl rfl rfl ?_
    refine rNil ?_
    refine qSeq ?_
    refine wSeq ?_
    refine wSeq ?_
    refine wRegion ?_
    refine rmL rfl rfl rfl rfl rfl ?_
    refine rmI rfl rfl rfl rfl rfl ?_
    (apply rixl rfl rfl rfl rfl; (first | omega | assumption | (focus (simp; omega))); (first | rfl | assumption | exact hx (by omega)); rfl; rfl; rfl; rfl)
    refine rfai (off := 3) (s := 4) (r := true) rfl rfl rfl (Nat.succ_ne_zero _) rfl rfl rfl rfl ?_
    refine rfai (off := 2) (s := 1) (r := false) rfl rfl rfl (Nat.succ_ne_zero _) rfl rfl rfl rfl ?_
    refine rlic (v := .int _ _) rfl rfl rfl rfl rfl rfl rfl rfl ?_
    refine rmI rfl rfl rfl rfl rfl ?_
    refine rne rfl rfl rfl rfl rfl rfl (fun h => absurd h ((fun hh => hh rfl))) ?_
    intro h19_7
    refine rNil ?_
    refine qSeq ?_
    refine wF rfl ?_
    refine wSkip ?_
    refine qSeq ?_
    refine wSeq ?_
    refine wRegion ?_
    refine rmI rfl rfl rfl rfl rfl ?_
    refine raddF rfl rfl rfl ?_ ?_ rfl rfl rfl ?_
    · omega
    · omega
    refine raI rfl rfl rfl rfl rfl ?_
    refine rNil ?_
    refine qSeq ?_
    refine wSeq ?_
    refine wSeq ?_
    refine wRegion ?_
    refine rmL rfl rfl rfl rfl rfl ?_
    refine rmI rfl rfl rfl rfl rfl ?_
    (apply rixl rfl rfl rfl rfl; (first | omega | assumption | (focus (simp; omega))); (first | rfl | assumption | exact hx (by omega)); rfl; rfl; rfl; rfl)
    refine rfai (off := 3) (s := 4) (r := true) rfl rfl rfl (Nat.succ_ne_zero _) rfl rfl rfl rfl ?_
    refine rfai (off := 3) (s := 1) (r := false) rfl rfl rfl (Nat.succ_ne_zero _) rfl rfl rfl rfl ?_
    refine rlic (v := .int _ _) rfl rfl rfl rfl rfl rfl rfl rfl ?_
    refine rmI rfl rfl rfl rfl rfl ?_
    refine rne rfl rfl rfl rfl rfl rfl (fun h => absurd h ((fun hh => hh rfl))) ?_
    intro h22_7
    refine rNil ?_
    refine qSeq ?_
    refine wF rfl ?_
    refine wSkip ?_
    refine qSeq ?_
    refine wSeq ?_
    refine wRegion ?_
    refine rmI rfl rfl rfl rfl rfl ?_
    refine raddF rfl rfl rfl ?_ ?_ rfl rfl rfl ?_
    · omega
    · omega
    refine raI rfl rfl rfl rfl rfl ?_
    refine rNil ?_
    refine qSeq ?_
    refine wSeq ?_
    refine wSeq ?_
    refine wDraw [0, 0, 3, 7, 15, 0, 32, 127] rfl (by decide +kernel) ?_
    refine dmL rfl rfl rfl rfl rfl ?_
    refine dmI rfl rfl rfl rfl rfl ?_
    (apply dixl rfl rfl rfl rfl; (first | omega | assumption | (focus (simp; omega))); (first | rfl | assumption | exact hx (by omega)); rfl; rfl; rfl; rfl)
    refine dfai (off := 7) (s := 1) (r := false) rfl rfl rfl (Nat.succ_ne_zero _) rfl rfl rfl rfl ?_
    refine dlic (v := .str _) rfl rfl rfl rfl rfl rfl rfl rfl ?_
    refine dmI rfl rfl rfl rfl rfl ?_
    refine dcl (q66 _ (by omega)) rfl rfl rfl rfl rfl rfl ?_
    refine dsne rfl rfl rfl rfl rfl rfl (fun h => absurd h ((fun hh => hh rfl))) ?_
    intro h25_7
    refine dNilR 8 [0, 0, 0, 0, 0, 0, 0, 0] [] rfl rfl (by decide +kernel) trivial ?_
    refine qSeq ?_
    refine wF rfl ?_
    refine wSkip ?_
    refine qSeq ?_
    refine wRegion ?_
    refine rmI rfl rfl rfl rfl rfl ?_
    refine raddF rfl rfl rfl ?_ ?_ rfl rfl rfl ?_
    · omega
    · omega
    refine raI rfl rfl rfl rfl rfl ?_
    refine rNil ?_
    refine qBlock ?_
    refine qSeq ?_
    refine wRegion ?_
    refine rmI rfl rfl rfl rfl rfl ?_
    refine raddF rfl rfl rfl ?_ ?_ rfl rfl rfl ?_
    · omega
    · omega
    refine raI rfl rfl rfl rfl rfl ?_
    refine rNil ?_
    refine qLoop ?_
    exact wlN (ih (i + 1, y + 1 + 1 + 1 + 1 + 1 + 1 + 1 + 1) ⟨by dsimp only; omega, by dsimp only; omega⟩ (by dsimp only; omega)) (by (repeat first | exact LE.nil _ | refine LE.unk _ _ ?_ | refine LE.eq _ _ _ rfl ?_))
  · refine rNil ?_
    refine qSeq ?_
    refine wF rfl ?_
    refine wExit ?_
    refine qSeqX ?_
    refine qLoopX ?_
    refine qBlockX ?_
    refine qSeq ?_
    refine wSeq ?_
    refine wRegion ?_
    refine rmI rfl rfl rfl rfl rfl ?_
    refine raI rfl rfl rfl rfl rfl ?_
    refine rNil ?_
    refine qSeq ?_
    refine wRet ?_
    obtain rfl : i = m := by omega
    exact finE rfl rfl (by rw [hI.2])
theorem s39 (nn : Bool) (k : Int) (m : Nat) (hk : 0 ≤ k ∧ k ≤ 100000000) (hm : m ≤ 1048577) : Pure En 39 [.one (.sl nn ((MA k m).map An.T)), .one (.int .i64 k)] [.one (.int .i64 (k + 4 * (m : Int)))] := by
  have hl : ((MA k m).map An.T).length = m := by rw [List.length_map, MA_len]
  refine Pure.of_wp Tryd.func39 rfl (Nat.le_of_ble_eq_true rfl) ?_
  refine wSeq ?_
  refine wRegion ?_
  refine raI rfl rfl rfl rfl rfl ?_
  refine rNil ?_
  refine qSeq ?_
  refine wSeq ?_
  refine wSeq ?_
  refine wRegion ?_
  refine raI rfl rfl rfl rfl rfl ?_
  refine rNil ?_
  refine qSeq ?_
  refine wBlock ?_
  refine wLoop ?_
  refine loopGo0 (fun (a : Nat × Int) => [.sl false nn ((MA k m).map An.T), .int .i64 a.2, .unk, .unk, .unk, .int .i64 a.1]) (fun (a : Nat × Int) => a.1 ≤ m ∧ a.2 = k + 4 * (a.1 : Int)) (fun (a : Nat × Int) => m - a.1) (0, k) ?_ ?_ ?_
  · exact ⟨Nat.zero_le _, by dsimp only; omega⟩
  · (repeat first | exact LE.nil _ | refine LE.unk _ _ ?_ | refine LE.eq _ _ _ rfl ?_)
  intro ⟨i, y⟩ hI ih
  dsimp only at hI ⊢
  have hx : i < m → ((MA k m).map An.T)[i]? = some (mAy y).T := fun h => by
    rw [mapGet An.T An0 (show i < (MA k m).length by rw [MA_len]; exact h), MA_get h, hI.2]
  refine lStep ?_
  refine wSeq ?_
  refine wSeq ?_
  refine wRegion ?_
  refine rmI rfl rfl rfl rfl rfl ?_
  refine rmL rfl rfl rfl rfl rfl ?_
  refine rll rfl rfl rfl rfl rfl rfl ?_
  refine rlt rfl rfl rfl rfl rfl rfl ?_ ?_ <;> intro h2_3
  · refine rNil ?_
    refine qSeq ?_
    refine wT rfl ?_
    refine wSkip ?_
    refine qSeq ?_
    refine wSeq ?_
    refine wBlock ?_
    refine wSeq ?_
    refine wSeq ?_
    refine wRegion ?_
    refine rmL rfl rfl rfl rfl rfl ?_
    refine rmI rfl rfl rfl rfl rfl ?_
    (apply rixl rfl rfl rfl rfl; (first | omega | assumption | (focus (simp; omega))); (first | rfl | assumption | exact hx (by omega)); rfl; rfl; rfl; rfl)
    refine rfai (off := 0) (s := 1) (r := false) rfl rfl rfl (Nat.succ_ne_zero _) rfl rfl rfl rfl ?_
    refine rlic (v := .int _ _) rfl rfl rfl rfl rfl rfl rfl rfl ?_
    refine rmI rfl rfl rfl rfl rfl ?_
    refine rne rfl rfl rfl rfl rfl rfl (fun h => absurd h ((fun hh => hh rfl))) ?_
    intro h4_6
    refine rNil ?_
    refine qSeq ?_
    refine wF rfl ?_
    refine wSkip ?_
    refine qSeq ?_
    refine wSeq ?_
    refine wRegion ?_
    refine rmI rfl rfl rfl rfl rfl ?_
    refine raddF rfl rfl rfl ?_ ?_ rfl rfl rfl ?_
    · omega
    · omega
    refine raI rfl rfl rfl rfl rfl ?_
    refine rNil ?_
    refine qSeq ?_
    refine wSeq ?_
    refine wSeq ?_
    refine wRegion ?_
    refine rmL rfl rfl rfl rfl rfl ?_
    refine rmI rfl rfl rfl rfl rfl ?_
    (apply rixl rfl rfl rfl rfl; (first | omega | assumption | (focus (simp; omega))); (first | rfl | assumption | exact hx (by omega)); rfl; rfl; rfl; rfl)
    refine rfai (off := 1) (s := 1) (r := false) rfl rfl rfl (Nat.succ_ne_zero _) rfl rfl rfl rfl ?_
    refine rlic (v := .int _ _) rfl rfl rfl rfl rfl rfl rfl rfl ?_
    refine rmI rfl rfl rfl rfl rfl ?_
    refine rne rfl rfl rfl rfl rfl rfl (fun h => absurd h ((fun hh => hh rfl))) ?_
    intro h7_6
    refine rNil ?_
    refine qSeq ?_
    refine wF rfl ?_
    refine wSkip ?_
    refine qSeq ?_
    refine wSeq ?_
    refine wRegion ?_
    refine rmI rfl rfl rfl rfl rfl ?_
    refine raddF rfl rfl rfl ?_ ?_ rfl rfl rfl ?_
    · omega
    · omega
    refine raI rfl rfl rfl rfl rfl ?_
    refine rNil ?_
    refine qSeq ?_
    refine wSeq ?_
    refine wSeq ?_
    refine wRegion ?_
    refine rmL rfl rfl rfl rfl rfl ?_
    refine rmI rfl rfl rfl rfl rfl ?_
    (apply rixl rfl rfl rfl rfl; (first | omega | assumption | (focus (simp; omega))); (first | rfl | assumption | exact hx (by omega)); rfl; rfl; rfl; rfl)
    refine rfai (off := 2) (s := 1) (r := false) rfl rfl rfl (Nat.succ_ne_zero _) rfl rfl rfl rfl ?_
    refine rlic (v := .int _ _) rfl rfl rfl rfl rfl rfl rfl rfl ?_
    refine rmI rfl rfl rfl rfl rfl ?_
    refine rne rfl rfl rfl rfl rfl rfl (fun h => absurd h ((fun hh => hh rfl))) ?_
    intro h10_6
    refine rNil ?_
    refine qSeq ?_
    refine wF rfl ?_
    refine wSkip ?_
    refine qSeq ?_
    refine wSeq ?_
    refine wRegion ?_
    refine rmI rfl rfl rfl rfl rfl ?_
    refine raddF rfl rfl rfl ?_ ?_ rfl rfl rfl ?_
    · omega
    · omega
    refine raI rfl rfl rfl rfl rfl ?_
    refine rNil ?_
    refine qSeq ?_
    refine wSeq ?_
    refine wSeq ?_
    refine wRegion ?_
    refine rmL rfl rfl rfl rfl rfl ?_
    refine rmI rfl rfl rfl rfl rfl ?_
    (apply rixl rfl rfl rfl rfl; (first | omega | assumption | (focus (simp; omega))); (first | rfl | assumption | exact hx (by omega)); rfl; rfl; rfl; rfl)
    refine rfai (off := 3) (s := 1) (r := false) rfl rfl rfl (Nat.succ_ne_zero _) rfl rfl rfl rfl ?_
    refine rlic (v := .int _ _) rfl rfl rfl rfl rfl rfl rfl rfl ?_
    refine rmI rfl rfl rfl rfl rfl ?_
    refine rne rfl rfl rfl rfl rfl rfl (fun h => absurd h ((fun hh => hh rfl))) ?_
    intro h13_6
    refine rNil ?_
    refine qSeq ?_
    refine wF rfl ?_
    refine wSkip ?_
    refine qSeq ?_
    refine wRegion ?_
    refine rmI rfl rfl rfl rfl rfl ?_
    refine raddF rfl rfl rfl ?_ ?_ rfl rfl rfl ?_
    · omega
    · omega
    refine raI rfl rfl rfl rfl rfl ?_
    refine rNil ?_
    refine qBlock ?_
    refine qSeq ?_
    refine wRegion ?_
    refine rmI rfl rfl rfl rfl rfl ?_
    refine raddF rfl rfl rfl ?_ ?_ rfl rfl rfl ?_
    · omega
    · omega
    refine raI rfl rfl rfl rfl rfl ?_
    refine rNil ?_
    refine qLoop ?_
    exact wlN (ih (i + 1, y + 1 + 1 + 1 + 1) ⟨by dsimp only; omega, by dsimp only; omega⟩ (by dsimp only; omega)) (by (repeat first | exact LE.nil _ | refine LE.unk _ _ ?_ | refine LE.eq _ _ _ rfl ?_))
  · refine rNil ?_
    refine qSeq ?_
    refine wF rfl ?_
    refine wExit ?_
    refine qSeqX ?_
    refine qLoopX ?_
    refine qBlockX ?_
    refine qSeq ?_
    refine wSeq ?_
    refine wRegion ?_
    refine rmI rfl rfl rfl rfl rfl ?_
    refine raI rfl rfl rfl rfl rfl ?_
    refine rNil ?_
    refine qSeq ?_
    refine wRet ?_
    obtain rfl : i = m := by omega
    exact finE rfl rfl (by rw [hI.2])
theorem o36n (k : Int) {h : Heap} {n : Nat} : V.Open En 36 [.nsl, .int .i64 k] h n (.int .i64 k) [] n := by
  refine V.Open.of_wp Tryd.func36 rfl (Nat.le_of_ble_eq_true rfl) ?_
  refine wSeq ?_
  refine wRegion ?_
  refine raI rfl rfl rfl rfl rfl ?_
  refine rNil ?_
  refine qSeq ?_
  refine wSeq ?_
  refine wSeq ?_
  refine wRegion ?_
  refine raI rfl rfl rfl rfl rfl ?_
  refine rNil ?_
  refine qSeq ?_
  refine wBlock ?_
  refine wLoop ?_
  refine lStep ?_
  refine wSeq ?_
  refine wSeq ?_
  refine wRegion ?_
  refine rmI rfl rfl rfl rfl rfl ?_
  refine rmN rfl rfl rfl rfl rfl ?_
  refine rll rfl rfl rfl rfl rfl rfl ?_
  refine rlt rfl rfl rfl rfl rfl rfl (fun h => absurd h (by decide)) ?_
  intro h2_3
  refine rNil ?_
  refine qSeq ?_
  refine wF rfl ?_
  refine wExit ?_
  refine qSeqX ?_
  refine qLoopX ?_
  refine qBlockX ?_
  refine qSeq ?_
  refine wSeq ?_
  refine wRegion ?_
  refine rmI rfl rfl rfl rfl rfl ?_
  refine raI rfl rfl rfl rfl rfl ?_
  refine rNil ?_
  refine qSeq ?_
  refine wRet ?_
  exact finO rfl rfl (fun _ _ _ e => e) (Nat.le_refl _)
theorem o37n (k : Int) {h : Heap} {n : Nat} : V.Open En 37 [.nsl, .int .i64 k] h n (.int .i64 k) [] n := by
  refine V.Open.of_wp Tryd.func37 rfl (Nat.le_of_ble_eq_true rfl) ?_
  refine wSeq ?_
  refine wRegion ?_
  refine raI rfl rfl rfl rfl rfl ?_
  refine rNil ?_
  refine qSeq ?_
  refine wSeq ?_
  refine wSeq ?_
  refine wRegion ?_
  refine raI rfl rfl rfl rfl rfl ?_
  refine rNil ?_
  refine qSeq ?_
  refine wBlock ?_
  refine wLoop ?_
  refine lStep ?_
  refine wSeq ?_
  refine wSeq ?_
  refine wRegion ?_
  refine rmI rfl rfl rfl rfl rfl ?_
  refine rmN rfl rfl rfl rfl rfl ?_
  refine rll rfl rfl rfl rfl rfl rfl ?_
  refine rlt rfl rfl rfl rfl rfl rfl (fun h => absurd h (by decide)) ?_
  intro h2_3
  refine rNil ?_
  refine qSeq ?_
  refine wF rfl ?_
  refine wExit ?_
  refine qSeqX ?_
  refine qLoopX ?_
  refine qBlockX ?_
  refine qSeq ?_
  refine wSeq ?_
  refine wRegion ?_
  refine rmI rfl rfl rfl rfl rfl ?_
  refine raI rfl rfl rfl rfl rfl ?_
  refine rNil ?_
  refine qSeq ?_
  refine wRet ?_
  exact finO rfl rfl (fun _ _ _ e => e) (Nat.le_refl _)
theorem o13VV (c : Cl) (k : Int) (hk : 0 ≤ k ∧ k ≤ 1000000) (hr : c.rps.length ≤ 1048577) (ha : c.acc.length ≤ 1048577) {i1 i2 : Nat} {h : Heap} {n : Nat} (hi1 : i1 < n) (hi2 : i2 < n) (hne : i1 ≠ i2) (k1 : h i1 = some ⟨c.rps.map Rp.V, 8, 44⟩) (k2 : h i2 = some ⟨c.acc.map An.V, 4, 42⟩) :
    V.Open En 13 [.agg (c.V (.view i1 0 c.rps.length) (.view i2 0 c.acc.length)), .int .i64 k] h n (.int .i64 ((k + 8 * (c.rps.length : Int)) + 4 * (c.acc.length : Int))) [(i1, some ⟨(MR k c.rps.length).map Rp.V, 8, 44⟩), (i2, some ⟨(MA (k + 8 * (c.rps.length : Int)) c.acc.length).map An.V, 4, 42⟩)] (n + 1) := by
  refine V.Open.of_wp Tryd.func13 rfl (Nat.le_of_ble_eq_true rfl) ?_
  refine wSeq ?_
  refine wRegion ?_
  refine rbx (u := .agg [.int _ _, .int _ _, .bool _, .int _ _, .int _ _, .int _ _, .int _ _, .str _, _, _]) rfl rfl rfl rfl rfl rfl rfl ?_
  refine raI rfl rfl rfl rfl rfl ?_
  refine rNil ?_
  refine qSeq ?_
  refine wSeq ?_
  refine wRegion ?_
  refine rfa (off := 8) (s := 1) (r := false) rfl rfl rfl (Nat.succ_ne_zero _) rfl rfl rfl ?_
  (apply rlc (v := .view _ _ _) rfl rfl; (first | ((simp (disch := omega) only [↓app0, ↓appC, ↓updS, ↓updN, ↓hpS, ↓hpN]) <;> first | rfl | assumption) | assumption | rfl); rfl; rfl; rfl; rfl; rfl; rfl)
  refine rmI rfl rfl rfl rfl rfl ?_
  refine rop (o36 c.rps k (by omega) hr (id := i1) ?_ ?_) rfl rfl rfl rfl rfl rfl ?_
  · (first | omega | (first | ((simp (disch := omega) only [↓app0, ↓appC, ↓updS, ↓updN, ↓hpS, ↓hpN]) <;> first | rfl | assumption) | assumption | rfl))
  · (first | omega | (first | ((simp (disch := omega) only [↓app0, ↓appC, ↓updS, ↓updN, ↓hpS, ↓hpN]) <;> first | rfl | assumption) | assumption | rfl))
  refine raI rfl rfl rfl rfl rfl ?_
  refine rNil ?_
  refine qSeq ?_
  refine wSeq ?_
  refine wRegion ?_
  refine rfa (off := 9) (s := 1) (r := false) rfl rfl rfl (Nat.succ_ne_zero _) rfl rfl rfl ?_
  (apply rlc (v := .view _ _ _) rfl rfl; (first | ((simp (disch := omega) only [↓app0, ↓appC, ↓updS, ↓updN, ↓hpS, ↓hpN]) <;> first | rfl | assumption) | assumption | rfl); rfl; rfl; rfl; rfl; rfl; rfl)
  refine rmI rfl rfl rfl rfl rfl ?_
  refine rop (o37 c.acc (k + 8 * (c.rps.length : Int)) (by omega) ha (id := i2) ?_ ?_) rfl rfl rfl rfl rfl rfl ?_
  · (first | omega | (first | ((simp (disch := omega) only [↓app0, ↓appC, ↓updS, ↓updN, ↓hpS, ↓hpN]) <;> first | rfl | assumption) | assumption | rfl))
  · (first | omega | (first | ((simp (disch := omega) only [↓app0, ↓appC, ↓updS, ↓updN, ↓hpS, ↓hpN]) <;> first | rfl | assumption) | assumption | rfl))
  refine raI rfl rfl rfl rfl rfl ?_
  refine rNil ?_
  refine qSeq ?_
  refine wSeq ?_
  refine wRegion ?_
  refine rmI rfl rfl rfl rfl rfl ?_
  refine raI rfl rfl rfl rfl rfl ?_
  refine rNil ?_
  refine qSeq ?_
  refine wRet ?_
  exact finO rfl rfl (leWr (by
    intro j hj
    simp only [List.map_cons, List.map_nil, List.mem_cons, List.not_mem_nil, or_false] at hj
    rcases hj with rfl | rfl <;> (simp (disch := omega) only [↓app0, ↓appC, ↓updS, ↓updN]) <;> first | rfl | (fail)) (fun j hj hn => by
    simp only [List.map_cons, List.map_nil, List.mem_cons, List.not_mem_nil, or_false, not_or] at hn
    simp (disch := omega) only [↓app0, ↓appC, ↓updS, ↓updN])) (Nat.le_refl _)
theorem o13NV (c : Cl) (k : Int) (hk : 0 ≤ k ∧ k ≤ 1000000) (hr : c.rps.length ≤ 1048577) (ha : c.acc.length ≤ 1048577) {i2 : Nat} {h : Heap} {n : Nat} (hi2 : i2 < n) (k2 : h i2 = some ⟨c.acc.map An.V, 4, 42⟩) :
    V.Open En 13 [.agg (c.V (.nsl) (.view i2 0 c.acc.length)), .int .i64 k] h n (.int .i64 (k + 4 * (c.acc.length : Int))) [(i2, some ⟨(MA k c.acc.length).map An.V, 4, 42⟩)] (n + 1) := by
  refine V.Open.of_wp Tryd.func13 rfl (Nat.le_of_ble_eq_true rfl) ?_
  refine wSeq ?_
  refine wRegion ?_
  refine rbx (u := .agg [.int _ _, .int _ _, .bool _, .int _ _, .int _ _, .int _ _, .int _ _, .str _, _, _]) rfl rfl rfl rfl rfl rfl rfl ?_
  refine raI rfl rfl rfl rfl rfl ?_
  refine rNil ?_
  refine qSeq ?_
  refine wSeq ?_
  refine wRegion ?_
  refine rfa (off := 8) (s := 1) (r := false) rfl rfl rfl (Nat.succ_ne_zero _) rfl rfl rfl ?_
  (apply rlc (v := .nsl) rfl rfl; (first | ((simp (disch := omega) only [↓app0, ↓appC, ↓updS, ↓updN, ↓hpS, ↓hpN]) <;> first | rfl | assumption) | assumption | rfl); rfl; rfl; rfl; rfl; rfl; rfl)
  refine rmI rfl rfl rfl rfl rfl ?_
  refine rop (o36n k) rfl rfl rfl rfl rfl rfl ?_
  refine raI rfl rfl rfl rfl rfl ?_
  refine rNil ?_
  refine qSeq ?_
  refine wSeq ?_
  refine wRegion ?_
  refine rfa (off := 9) (s := 1) (r := false) rfl rfl rfl (Nat.succ_ne_zero _) rfl rfl rfl ?_
  (apply rlc (v := .view _ _ _) rfl rfl; (first | ((simp (disch := omega) only [↓app0, ↓appC, ↓updS, ↓updN, ↓hpS, ↓hpN]) <;> first | rfl | assumption) | assumption | rfl); rfl; rfl; rfl; rfl; rfl; rfl)
  refine rmI rfl rfl rfl rfl rfl ?_
  refine rop (o37 c.acc k (by omega) ha (id := i2) ?_ ?_) rfl rfl rfl rfl rfl rfl ?_
  · (first | omega | (first | ((simp (disch := omega) only [↓app0, ↓appC, ↓updS, ↓updN, ↓hpS, ↓hpN]) <;> first | rfl | assumption) | assumption | rfl))
  · (first | omega | (first | ((simp (disch := omega) only [↓app0, ↓appC, ↓updS, ↓updN, ↓hpS, ↓hpN]) <;> first | rfl | assumption) | assumption | rfl))
  refine raI rfl rfl rfl rfl rfl ?_
  refine rNil ?_
  refine qSeq ?_
  refine wSeq ?_
  refine wRegion ?_
  refine rmI rfl rfl rfl rfl rfl ?_
  refine raI rfl rfl rfl rfl rfl ?_
  refine rNil ?_
  refine qSeq ?_
  refine wRet ?_
  exact finO rfl rfl (leWr (by
    intro j hj
    simp only [List.map_cons, List.map_nil, List.mem_cons, List.not_mem_nil, or_false] at hj
    rcases hj with rfl <;> (simp (disch := omega) only [↓app0, ↓appC, ↓updS, ↓updN]) <;> first | rfl | (fail)) (fun j hj hn => by
    simp only [List.map_cons, List.map_nil, List.mem_cons, List.not_mem_nil, or_false, not_or] at hn
    simp (disch := omega) only [↓app0, ↓appC, ↓updS, ↓updN])) (Nat.le_refl _)
theorem o13NN (c : Cl) (k : Int) (hk : 0 ≤ k ∧ k ≤ 1000000) (hr : c.rps.length ≤ 1048577) (ha : c.acc.length ≤ 1048577)  {h : Heap} {n : Nat} :
    V.Open En 13 [.agg (c.V (.nsl) (.nsl)), .int .i64 k] h n (.int .i64 (k)) [] (n + 1) := by
  refine V.Open.of_wp Tryd.func13 rfl (Nat.le_of_ble_eq_true rfl) ?_
  refine wSeq ?_
  refine wRegion ?_
  refine rbx (u := .agg [.int _ _, .int _ _, .bool _, .int _ _, .int _ _, .int _ _, .int _ _, .str _, _, _]) rfl rfl rfl rfl rfl rfl rfl ?_
  refine raI rfl rfl rfl rfl rfl ?_
  refine rNil ?_
  refine qSeq ?_
  refine wSeq ?_
  refine wRegion ?_
  refine rfa (off := 8) (s := 1) (r := false) rfl rfl rfl (Nat.succ_ne_zero _) rfl rfl rfl ?_
  (apply rlc (v := .nsl) rfl rfl; (first | ((simp (disch := omega) only [↓app0, ↓appC, ↓updS, ↓updN, ↓hpS, ↓hpN]) <;> first | rfl | assumption) | assumption | rfl); rfl; rfl; rfl; rfl; rfl; rfl)
  refine rmI rfl rfl rfl rfl rfl ?_
  refine rop (o36n k) rfl rfl rfl rfl rfl rfl ?_
  refine raI rfl rfl rfl rfl rfl ?_
  refine rNil ?_
  refine qSeq ?_
  refine wSeq ?_
  refine wRegion ?_
  refine rfa (off := 9) (s := 1) (r := false) rfl rfl rfl (Nat.succ_ne_zero _) rfl rfl rfl ?_
  (apply rlc (v := .nsl) rfl rfl; (first | ((simp (disch := omega) only [↓app0, ↓appC, ↓updS, ↓updN, ↓hpS, ↓hpN]) <;> first | rfl | assumption) | assumption | rfl); rfl; rfl; rfl; rfl; rfl; rfl)
  refine rmI rfl rfl rfl rfl rfl ?_
  refine rop (o37n k) rfl rfl rfl rfl rfl rfl ?_
  refine raI rfl rfl rfl rfl rfl ?_
  refine rNil ?_
  refine qSeq ?_
  refine wSeq ?_
  refine wRegion ?_
  refine rmI rfl rfl rfl rfl rfl ?_
  refine raI rfl rfl rfl rfl rfl ?_
  refine rNil ?_
  refine qSeq ?_
  refine wRet ?_
  exact finO rfl rfl (fun hz j b hj => by
    have : j < n := by
      rcases Nat.lt_or_ge j n with h1 | h1
      · exact h1
      · rw [show app [] h j = h j from rfl, hz j h1] at hj; cases hj
    first | exact hj | ((simp (disch := omega) only [↓app0, ↓appC, ↓updS, ↓updN]); exact hj)) (Nat.le_refl _)
theorem s14 (c : Cl) (b1 b2 : Bool) (k : Int) (hk : 0 ≤ k ∧ k ≤ 1000000) (hr : c.rps.length ≤ 1048577) (ha : c.acc.length ≤ 1048577) : Pure En 14 [.agg (c.U (.sl b1 ((MR k c.rps.length).map Rp.T)) (.sl b2 ((MA (k + 8 * (c.rps.length : Int)) c.acc.length).map An.T))), .one (.int .i64 k)] [.one (.int .i64 ((k + 8 * (c.rps.length : Int)) + 4 * (c.acc.length : Int)))] := by
  refine Pure.of_wp Tryd.func14 rfl (Nat.le_of_ble_eq_true rfl) ?_
  refine wSeq ?_
  refine wRegion ?_
  refine rbx (u := .agg [.int _ _, .int _ _, .bool _, .int _ _, .int _ _, .int _ _, .int _ _, .str _, _, _]) rfl rfl rfl rfl rfl rfl rfl ?_
  refine raI rfl rfl rfl rfl rfl ?_
  refine rNil ?_
  refine qSeq ?_
  refine wSeq ?_
  refine wRegion ?_
  refine rfa (off := 8) (s := 1) (r := false) rfl rfl rfl (Nat.succ_ne_zero _) rfl rfl rfl ?_
  (apply rlc (v := .sl _ _ _) rfl rfl; (first | ((simp (disch := omega) only [↓app0, ↓appC, ↓updS, ↓updN, ↓hpS, ↓hpN]) <;> first | rfl | assumption) | assumption | rfl); rfl; rfl; rfl; rfl; rfl; rfl)
  refine rmI rfl rfl rfl rfl rfl ?_
  refine rcl (s38 b1 k c.rps.length (by omega) hr) rfl rfl rfl rfl rfl rfl ?_
  refine raI rfl rfl rfl rfl rfl ?_
  refine rNil ?_
  refine qSeq ?_
  refine wSeq ?_
  refine wSeq ?_
  refine wRegion ?_
  refine rmI rfl rfl rfl rfl rfl ?_
  refine rlt rfl rfl rfl rfl rfl rfl ?_ ?_ <;> intro h2_1
  · refine rNil ?_
    refine qSeq ?_
    refine wT rfl ?_
    refine wSeq ?_
    refine wRegion ?_
    refine raI rfl rfl rfl rfl rfl ?_
    refine rNil ?_
    refine qSeq ?_
    refine wRet ?_
    refine qSeqR ?_
    first | exact fin rfl rfl | omega
  · refine rNil ?_
    refine qSeq ?_
    refine wF rfl ?_
    refine wSkip ?_
    refine qSeq ?_
    refine wSeq ?_
    refine wRegion ?_
    refine rfa (off := 9) (s := 1) (r := false) rfl rfl rfl (Nat.succ_ne_zero _) rfl rfl rfl ?_
    (apply rlc (v := .sl _ _ _) rfl rfl; (first | ((simp (disch := omega) only [↓app0, ↓appC, ↓updS, ↓updN, ↓hpS, ↓hpN]) <;> first | rfl | assumption) | assumption | rfl); rfl; rfl; rfl; rfl; rfl; rfl)
    refine rmI rfl rfl rfl rfl rfl ?_
    refine rcl (s39 b2 (k + 8 * (c.rps.length : Int)) c.acc.length (by omega) ha) rfl rfl rfl rfl rfl rfl ?_
    refine raI rfl rfl rfl rfl rfl ?_
    refine rNil ?_
    refine qSeq ?_
    refine wSeq ?_
    refine wSeq ?_
    refine wRegion ?_
    refine rmI rfl rfl rfl rfl rfl ?_
    refine rlt rfl rfl rfl rfl rfl rfl ?_ ?_ <;> intro h5_1
    · refine rNil ?_
      refine qSeq ?_
      refine wT rfl ?_
      refine wSeq ?_
      refine wRegion ?_
      refine raI rfl rfl rfl rfl rfl ?_
      refine rNil ?_
      refine qSeq ?_
      refine wRet ?_
      refine qSeqR ?_
      first | exact fin rfl rfl | omega
    · refine rNil ?_
      refine qSeq ?_
      refine wF rfl ?_
      refine wSkip ?_
      refine qSeq ?_
      refine wSeq ?_
      refine wRegion ?_
      refine rmI rfl rfl rfl rfl rfl ?_
      refine raI rfl rfl rfl rfl rfl ?_
      refine rNil ?_
      refine qSeq ?_
      refine wRet ?_
      first | exact fin rfl rfl | omega
end Go.Proofs.YtcafccndgpopkaaDoor
