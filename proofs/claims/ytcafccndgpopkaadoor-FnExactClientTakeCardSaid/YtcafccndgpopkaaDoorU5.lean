import Derived.Test.YtcafccndgpopkaaDoorT7
namespace Go.Proofs.YtcafccndgpopkaaDoor
open Go.V
set_option linter.unusedVariables false
set_option linter.unusedSimpArgs false
set_option maxRecDepth 20000
set_option maxHeartbeats 4000000

/-! Lists that are searched. -/
def strT (s : ByteArray) : List T := [.str s]
def An0 : An := ⟨0, 0, 0, 0⟩
def iT (x : Int) : List T := [.int .i64 x]

theorem p24 (a : An) : Pure En 58 [.agg a.T] [.one (.bool (decide (¬ a.OK)))] := by
  refine Pure.of_wp Tryd.func58 rfl (Nat.le_of_ble_eq_true rfl) ?_
  refine wSeq ?_
  refine wRegion ?_
  refine rbx (u := .agg [.int _ _, .int _ _, .int _ _, .int _ _]) rfl rfl rfl rfl rfl rfl rfl ?_
  refine raB rfl rfl rfl rfl rfl ?_
  refine rNil ?_
  refine qSeq ?_
  refine wSeq ?_
  refine wRegion ?_
  refine rlr (vs := [.int _ _, .int _ _, .int _ _, .int _ _]) rfl rfl rfl rfl rfl (Nat.le_of_ble_eq_true rfl) rfl rfl rfl rfl ?_
  refine rclP (p25 a) rfl rfl rfl rfl rfl rfl ?_ ?_ <;> intro h1_1
  · refine rnot (c := true) rfl rfl rfl rfl rfl ?_
    refine raB rfl rfl rfl rfl rfl ?_
    refine rNil ?_
    refine qSeq ?_
    refine wRet ?_
    first | exact finT rfl h1_1 | exact finF rfl (fun e => e h1_1)
  · refine rnot (c := false) rfl rfl rfl rfl rfl ?_
    refine raB rfl rfl rfl rfl rfl ?_
    refine rNil ?_
    refine qSeq ?_
    refine wRet ?_
    first | exact finT rfl h1_1 | exact finF rfl (fun e => e h1_1)
theorem o40 (fr nn : Bool) (L : List An) (hL : L.length ≤ 1048576) {h : Heap} {n : Nat} : ∃ r : Int, (0 ≤ r ↔ ∃ a ∈ L, ¬ a.OK) ∧ V.Open En 81 [.sl fr nn (L.map An.T), .clo 58 []] h n (.int .i64 r) [] n := by
  have hl : (L.map An.T).length = L.length := List.length_map ..
  refine V.Open.of_wpX (v := fun r => .int .i64 r) (wr := fun _ => []) (m := fun _ => n) Tryd.func81 rfl (Nat.le_of_ble_eq_true rfl) ?_
  refine wSeq ?_
  refine wRegion ?_
  refine raI rfl rfl rfl rfl rfl ?_
  refine rNil ?_
  refine qSeq ?_
  refine wSeq ?_
  refine wSeq ?_
  refine wRegion ?_
  refine rmL rfl rfl rfl rfl rfl ?_
  refine rll rfl rfl rfl rfl rfl rfl ?_
  refine rmI rfl rfl rfl rfl rfl ?_
  refine rNil ?_
  refine qSeq ?_
  refine wBlock ?_
  refine wLoop ?_
  refine loopGo (fun (i : Nat) => [.sl fr nn (L.map An.T), .clo 58 [], .unk, .unk, .unk, .unk, .unk, .int .i64 (L.map An.T).length, .int .i64 i]) (fun (i : Nat) => h) (fun (i : Nat) => n) (fun (i : Nat) => i ≤ L.length ∧ ∀ j, j < i → ¬ ¬ (L.getD j An0).OK) (fun (i : Nat) => L.length - i) 0 ?_ ?_ ?_ ?_ ?_
  · exact ⟨Nat.zero_le _, all0⟩
  · (repeat first | exact LE.nil _ | refine LE.unk _ _ ?_ | refine LE.eq _ _ _ rfl ?_)
  · exact LessH.refl _
  · exact Nat.le_refl _
  intro i hI ih
  refine lStep ?_
  refine wSeq ?_
  refine wRegion ?_
  refine rlt rfl rfl rfl rfl rfl rfl ?_ ?_ <;> intro h2_0
  · refine rNil ?_
    refine qSeq ?_
    refine wSeq ?_
    refine wT rfl ?_
    refine wSkip ?_
    refine qSeq ?_
    refine wSeq ?_
    refine wBlock ?_
    refine wSeq ?_
    refine wRegion ?_
    refine rmI rfl rfl rfl rfl rfl ?_
    refine raI rfl rfl rfl rfl rfl ?_
    refine rNil ?_
    refine qSeq ?_
    refine wSeq ?_
    refine wRegion ?_
    refine rmC rfl rfl rfl rfl rfl ?_
    refine rmL rfl rfl rfl rfl rfl ?_
    refine rmI rfl rfl rfl rfl rfl ?_
    (apply rixl rfl rfl rfl rfl; (first | omega | assumption | (focus (simp; omega))); (first | rfl | assumption | (exact mapGet An.T An0 (by omega))); rfl; rfl; rfl; rfl)
    refine rlir (vs := [.int _ _, .int _ _, .int _ _, .int _ _]) rfl rfl rfl (Nat.le_of_ble_eq_true rfl) rfl rfl rfl rfl ?_
    refine rclP (p24 _) rfl rfl rfl rfl rfl rfl ?_ ?_ <;> intro h4_5
    · refine rNil ?_
      refine qSeq ?_
      refine wT rfl ?_
      refine wSeq ?_
      refine wRegion ?_
      refine rmI rfl rfl rfl rfl rfl ?_
      refine raI rfl rfl rfl rfl rfl ?_
      refine rNil ?_
      refine qSeq ?_
      refine wRet ?_
      refine qBlockR ?_
      refine qSeqR ?_
      refine qLoopR ?_
      refine qBlockR ?_
      refine qSeqR ?_
      exact ⟨i, ⟨fun _ => ⟨L.getD i An0, by rw [List.getD_eq_getElem?_getD, List.getElem?_eq_getElem (show i < L.length by omega)]; exact List.getElem_mem _, h4_5⟩, fun _ => by omega⟩, finO rfl rfl (fun _ _ _ e => e) (Nat.le_refl _)⟩
    · refine rNil ?_
      refine qSeq ?_
      refine wF rfl ?_
      refine wSkip ?_
      refine qBlock ?_
      refine qSeq ?_
      refine wRegion ?_
      refine raddF rfl rfl rfl ?_ ?_ rfl rfl rfl ?_
      · (first | omega | assumption | (focus (simp; omega)))
      · (first | omega | assumption | (focus (simp; omega)))
      refine rmI rfl rfl rfl rfl rfl ?_
      refine rNil ?_
      refine qLoop ?_
      exact wlH (ih (i + 1) ⟨by omega, allS hI.2 h4_5⟩ (by omega)) (by (repeat first | exact LE.nil _ | refine LE.unk _ _ ?_ | refine LE.eq _ _ _ rfl ?_)) (LessH.refl _) (Nat.le_refl _)
  · refine rNil ?_
    refine qSeq ?_
    refine wSeq ?_
    refine wF rfl ?_
    refine wExit ?_
    refine qSeqX ?_
    refine qLoopX ?_
    refine qBlockX ?_
    refine qSeq ?_
    refine wSeq ?_
    refine wRegion ?_
    refine raI rfl rfl rfl rfl rfl ?_
    refine rNil ?_
    refine qSeq ?_
    refine wRet ?_
    exact ⟨-1, ⟨fun h => absurd h (by decide), fun ⟨s, h1, h2⟩ => by
      obtain ⟨j, hj, rfl⟩ := List.getElem_of_mem h1
      have := hI.2 j (by omega)
      rw [List.getD_eq_getElem?_getD, List.getElem?_eq_getElem hj] at this
      exact absurd h2 this⟩, finO rfl rfl (fun _ _ _ e => e) (Nat.le_refl _)⟩
theorem o23 (fr nn : Bool) (L : List An) (hL : L.length ≤ 1048576) {h : Heap} {n : Nat} : V.Open En 57 [.sl fr nn (L.map An.T), .clo 58 []] h n (.bool (decide (∃ a ∈ L, ¬ a.OK))) [] n := by
  refine V.Open.of_wp Tryd.func57 rfl (Nat.le_of_ble_eq_true rfl) ?_
  refine wSeq ?_
  refine wRegion ?_
  refine raB rfl rfl rfl rfl rfl ?_
  refine rNil ?_
  refine qSeq ?_
  refine wSeq ?_
  refine wRegion ?_
  refine rmL rfl rfl rfl rfl rfl ?_
  refine rmC rfl rfl rfl rfl rfl ?_
  refine ropX (o40 fr nn L hL) rfl rfl rfl rfl rfl rfl ?_
  rintro r h1_2
  try dsimp only at h1_2
  refine rge rfl rfl rfl rfl rfl rfl ?_ ?_ <;> intro h1_3
  · refine raB rfl rfl rfl rfl rfl ?_
    refine rNil ?_
    refine qSeq ?_
    refine wRet ?_
    first
      | (rw [decide_eq_true (h1_2.1 h1_3)]; exact finO rfl rfl (fun _ _ _ e => e) (Nat.le_refl _))
      | (rw [decide_eq_false (fun e => h1_3 (h1_2.2 e))]; exact finO rfl rfl (fun _ _ _ e => e) (Nat.le_refl _))
  · refine raB rfl rfl rfl rfl rfl ?_
    refine rNil ?_
    refine qSeq ?_
    refine wRet ?_
    first
      | (rw [decide_eq_true (h1_2.1 h1_3)]; exact finO rfl rfl (fun _ _ _ e => e) (Nat.le_refl _))
      | (rw [decide_eq_false (fun e => h1_3 (h1_2.2 e))]; exact finO rfl rfl (fun _ _ _ e => e) (Nat.le_refl _))

theorem p46 (nn : Bool) (L : List Int) (x : Int) (hL : L.length ≤ 1048576) : ∃ r : Int, (0 ≤ r ↔ x ∈ L) ∧ Pure En 96 [.one (.sl nn (L.map iT)), .one (.int .i64 x)] [.one (.int .i64 r)] := by
  have hl : (L.map iT).length = L.length := List.length_map ..
  refine Pure.of_wpX Tryd.func96 rfl (Nat.le_of_ble_eq_true rfl) ?_
  refine wSeq ?_
  refine wRegion ?_
  refine raI rfl rfl rfl rfl rfl ?_
  refine rNil ?_
  refine qSeq ?_
  refine wSeq ?_
  refine wSeq ?_
  refine wRegion ?_
  refine rmL rfl rfl rfl rfl rfl ?_
  refine rll rfl rfl rfl rfl rfl rfl ?_
  refine rmI rfl rfl rfl rfl rfl ?_
  refine rNil ?_
  refine qSeq ?_
  refine wBlock ?_
  refine wLoop ?_
  refine loopGo0 (fun (i : Nat) => [.sl false nn (L.map iT), .int .i64 x, .unk, .unk, .unk, .unk, .unk, .int .i64 (L.map iT).length, .int .i64 i]) (fun (i : Nat) => i ≤ L.length ∧ ∀ j, j < i → ¬ x = L.getD j 0) (fun (i : Nat) => L.length - i) 0 ?_ ?_ ?_
  · exact ⟨Nat.zero_le _, all0⟩
  · (repeat first | exact LE.nil _ | refine LE.unk _ _ ?_ | refine LE.eq _ _ _ rfl ?_)
  intro i hI ih
  refine lStep ?_
  refine wSeq ?_
  refine wRegion ?_
  refine rlt rfl rfl rfl rfl rfl rfl ?_ ?_ <;> intro h2_0
  · refine rNil ?_
    refine qSeq ?_
    refine wSeq ?_
    refine wT rfl ?_
    refine wSkip ?_
    refine qSeq ?_
    refine wSeq ?_
    refine wBlock ?_
    refine wSeq ?_
    refine wRegion ?_
    refine rmI rfl rfl rfl rfl rfl ?_
    refine raI rfl rfl rfl rfl rfl ?_
    refine rNil ?_
    refine qSeq ?_
    refine wSeq ?_
    refine wRegion ?_
    refine rmI rfl rfl rfl rfl rfl ?_
    refine rmL rfl rfl rfl rfl rfl ?_
    refine rmI rfl rfl rfl rfl rfl ?_
    (apply rixl rfl rfl rfl rfl; (first | omega | assumption | (focus (simp; omega))); (first | rfl | assumption | (exact mapGet iT 0 (by omega))); rfl; rfl; rfl; rfl)
    refine rlic (v := .int _ _) rfl rfl rfl rfl rfl rfl rfl rfl ?_
    refine req rfl rfl rfl rfl rfl rfl ?_ ?_ <;> intro h4_5
    · refine rNil ?_
      refine qSeq ?_
      refine wT rfl ?_
      refine wSeq ?_
      refine wRegion ?_
      refine rmI rfl rfl rfl rfl rfl ?_
      refine raI rfl rfl rfl rfl rfl ?_
      refine rNil ?_
      refine qSeq ?_
      refine wRet ?_
      refine qBlockR ?_
      refine qSeqR ?_
      refine qLoopR ?_
      refine qBlockR ?_
      refine qSeqR ?_
      exact ⟨i, ⟨fun _ => by have e : x = L.getD i 0 := h4_5; rw [e, List.getD_eq_getElem?_getD, List.getElem?_eq_getElem (show i < L.length by omega)]; exact List.getElem_mem _, fun _ => by omega⟩, fin rfl rfl⟩
    · refine rNil ?_
      refine qSeq ?_
      refine wF rfl ?_
      refine wSkip ?_
      refine qBlock ?_
      refine qSeq ?_
      refine wRegion ?_
      refine raddF rfl rfl rfl ?_ ?_ rfl rfl rfl ?_
      · (first | omega | assumption | (focus (simp; omega)))
      · (first | omega | assumption | (focus (simp; omega)))
      refine rmI rfl rfl rfl rfl rfl ?_
      refine rNil ?_
      refine qLoop ?_
      exact wlN (ih (i + 1) ⟨by omega, allS hI.2 h4_5⟩ (by omega)) (by (repeat first | exact LE.nil _ | refine LE.unk _ _ ?_ | refine LE.eq _ _ _ rfl ?_))
  · refine rNil ?_
    refine qSeq ?_
    refine wSeq ?_
    refine wF rfl ?_
    refine wExit ?_
    refine qSeqX ?_
    refine qLoopX ?_
    refine qBlockX ?_
    refine qSeq ?_
    refine wSeq ?_
    refine wRegion ?_
    refine raI rfl rfl rfl rfl rfl ?_
    refine rNil ?_
    refine qSeq ?_
    refine wRet ?_
    exact ⟨-1, ⟨fun h => absurd h (by decide), fun h1 => by
      obtain ⟨j, hj, rfl⟩ := List.getElem_of_mem h1
      have := hI.2 j (by omega)
      rw [List.getD_eq_getElem?_getD, List.getElem?_eq_getElem hj, Option.getD_some] at this
      exact (this rfl).elim⟩, fin rfl rfl⟩
theorem p41 (nn : Bool) (L : List Int) (x : Int) (hL : L.length ≤ 1048576) : Pure En 84 [.one (.sl nn (L.map iT)), .one (.int .i64 x)] [.one (.bool (decide (x ∈ L)))] := by
  refine Pure.of_wp Tryd.func84 rfl (Nat.le_of_ble_eq_true rfl) ?_
  refine wSeq ?_
  refine wRegion ?_
  refine raB rfl rfl rfl rfl rfl ?_
  refine rNil ?_
  refine qSeq ?_
  refine wSeq ?_
  refine wRegion ?_
  refine rmL rfl rfl rfl rfl rfl ?_
  refine rmI rfl rfl rfl rfl rfl ?_
  refine rclX (p46 nn L x hL) rfl rfl rfl rfl rfl rfl ?_
  rintro r h1_2
  try dsimp only at h1_2
  refine rge rfl rfl rfl rfl rfl rfl ?_ ?_ <;> intro h1_3
  · refine raB rfl rfl rfl rfl rfl ?_
    refine rNil ?_
    refine qSeq ?_
    refine wRet ?_
    first | exact finT rfl (h1_2.1 h1_3) | exact finF rfl (fun e => h1_3 (h1_2.2 e))
  · refine raB rfl rfl rfl rfl rfl ?_
    refine rNil ?_
    refine qSeq ?_
    refine wRet ?_
    first | exact finT rfl (h1_2.1 h1_3) | exact finF rfl (fun e => h1_3 (h1_2.2 e))
theorem p41n (x : Int) : Pure En 84 [.one .nsl, .one (.int .i64 x)] [.one (.bool (decide (x ∈ ([] : List Int))))] :=
  (p41 false [] x (Nat.zero_le _)).weakA (.cons _ _ _ _ (.one _ _ .nil) (.cons _ _ _ _ (.one _ _ (.refl _)) .nil))

end Go.Proofs.YtcafccndgpopkaaDoor
