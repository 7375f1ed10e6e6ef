import Derived.Test.YtnkpjlpappmccaaE9
namespace Go.Proofs.Ytnkpjlpappmccaa
open Go.V
set_option linter.unusedVariables false
set_option linter.unusedSimpArgs false
set_option maxRecDepth 20000
set_option maxHeartbeats 4000000

def Rq0 : Rq := ⟨0, 0, 0, 0, ⟨#[]⟩⟩
theorem p27 (x : Int) : Pure En 27 [.one (.int .i64 x)] [.one (.bool (decide (0 ≤ x ∧ x ≤ 1000000000)))] := by
  refine Pure.of_wp Try.func27 rfl (Nat.le_of_ble_eq_true rfl) ?_
  refine wSeq ?_
  refine wRegion ?_
  refine raB rfl rfl rfl rfl rfl ?_
  refine rNil ?_
  refine qSeq ?_
  refine wSeq ?_
  refine wRegion ?_
  refine rmI rfl rfl rfl rfl rfl ?_
  refine rclP (p45 _ _ _) rfl rfl rfl rfl rfl rfl ?_ ?_ <;> intro h1_1
  · refine raB rfl rfl rfl rfl rfl ?_
    refine rNil ?_
    refine qSeq ?_
    refine wRet ?_
    first | exact finT rfl ‹_› | exact finF rfl ‹_›
  · refine raB rfl rfl rfl rfl rfl ?_
    refine rNil ?_
    refine qSeq ?_
    refine wRet ?_
    first | exact finT rfl ‹_› | exact finF rfl ‹_›
theorem p35 (r : Rq) (h : r.OK) : Pure En 35 [.agg r.T] [.one (.bool false)] := by
  refine Pure.of_wp Try.func35 rfl (Nat.le_of_ble_eq_true rfl) ?_
  refine wSeq ?_
  refine wRegion ?_
  refine rbx (u := .agg [.int _ _, .int _ _, .int _ _, .int _ _, .str _]) rfl rfl rfl rfl rfl rfl rfl ?_
  refine raB rfl rfl rfl rfl rfl ?_
  refine rNil ?_
  refine qSeq ?_
  refine wSeq ?_
  refine wRegion ?_
  refine rlr (vs := [.int _ _, .int _ _, .int _ _, .int _ _, .str _]) rfl rfl rfl rfl rfl (Nat.le_of_ble_eq_true rfl) rfl rfl rfl rfl ?_
  refine rclP (p26 r) rfl rfl rfl rfl rfl rfl ?_ ?_ <;> intro h1_1
  · refine rnot (c := true) rfl rfl rfl rfl rfl ?_
    refine raB rfl rfl rfl rfl rfl ?_
    refine rNil ?_
    refine qSeq ?_
    refine wRet ?_
    first | exact fin rfl rfl | exact absurd h h1_1
  · refine rnot (c := false) rfl rfl rfl rfl rfl ?_
    refine raB rfl rfl rfl rfl rfl ?_
    refine rNil ?_
    refine qSeq ?_
    refine wRet ?_
    first | exact fin rfl rfl | exact absurd h h1_1
theorem p37 : Pure En 37 [.one (.int .i64 0)] [.one (.bool false)] := by
  refine Pure.of_wp Try.func37 rfl (Nat.le_of_ble_eq_true rfl) ?_
  refine wSeq ?_
  refine wRegion ?_
  refine raB rfl rfl rfl rfl rfl ?_
  refine rNil ?_
  refine qSeq ?_
  refine wSeq ?_
  refine wRegion ?_
  refine rmI rfl rfl rfl rfl rfl ?_
  refine rclP (p27 0) rfl rfl rfl rfl rfl rfl ?_ ?_ <;> intro h1_1
  · refine rnot (c := true) rfl rfl rfl rfl rfl ?_
    refine raB rfl rfl rfl rfl rfl ?_
    refine rNil ?_
    refine qSeq ?_
    refine wRet ?_
    first | exact fin rfl rfl | exact absurd (by decide : (0 : Int) ≤ 0 ∧ (0 : Int) ≤ 1000000000) h1_1
  · refine rnot (c := false) rfl rfl rfl rfl rfl ?_
    refine raB rfl rfl rfl rfl rfl ?_
    refine rNil ?_
    refine qSeq ?_
    refine wRet ?_
    first | exact fin rfl rfl | exact absurd (by decide : (0 : Int) ≤ 0 ∧ (0 : Int) ≤ 1000000000) h1_1

theorem o62 (fr nn : Bool) (L : List Rq) (hL : L.length ≤ 200) (hk : ∀ j, j < L.length → (L.getD j Rq0).OK) {h : Heap} {n : Nat} : V.Open En 62 [.sl fr nn (L.map Rq.T), .clo 35 []] h n (.int .i64 (-1)) [] n := by
  have hl : (L.map Rq.T).length = L.length := List.length_map ..
  refine V.Open.of_wp Try.func62 rfl (Nat.le_of_ble_eq_true rfl) ?_
  refine wSeq ?_
  refine wRegion ?_
  refine raI rfl rfl rfl rfl rfl ?_
  refine rNil ?_
  refine qSeq ?_
  refine wSeq ?_
  refine wSeq ?_
  refine wRegion ?_
  refine rmL rfl rfl rfl rfl rfl ?_
  refine rll rfl rfl rfl rfl rfl rfl ?_
  refine rmI rfl rfl rfl rfl rfl ?_
  refine rNil ?_
  refine qSeq ?_
  refine wBlock ?_
  refine wLoop ?_
  refine loopGo (fun (i : Nat) => [.sl fr nn (L.map Rq.T), .clo 35 [], .unk, .unk, .unk, .unk, .unk, .int .i64 (L.map Rq.T).length, .int .i64 i]) (fun (i : Nat) => h) (fun (i : Nat) => n) (fun (i : Nat) => i ≤ (L.map Rq.T).length) (fun (i : Nat) => (L.map Rq.T).length - i) 0 ?_ ?_ ?_ ?_ ?_
  · exact Nat.zero_le _
  · (repeat first | exact LE.nil _ | refine LE.unk _ _ ?_ | refine LE.eq _ _ _ rfl ?_)
  · exact LessH.refl _
  · exact Nat.le_refl _
  intro i hI ih
  refine lStep ?_
  refine wSeq ?_
  refine wRegion ?_
  refine rlt rfl rfl rfl rfl rfl rfl ?_ ?_ <;> intro h2_0
  · refine rNil ?_
    refine qSeq ?_
    refine wSeq ?_
    refine wT rfl ?_
    refine wSkip ?_
    refine qSeq ?_
    refine wSeq ?_
    refine wBlock ?_
    refine wSeq ?_
    refine wRegion ?_
    refine rmI rfl rfl rfl rfl rfl ?_
    refine raI rfl rfl rfl rfl rfl ?_
    refine rNil ?_
    refine qSeq ?_
    refine wSeq ?_
    refine wRegion ?_
    refine rmC rfl rfl rfl rfl rfl ?_
    refine rmL rfl rfl rfl rfl rfl ?_
    refine rmI rfl rfl rfl rfl rfl ?_
    (apply rixl rfl rfl rfl rfl; (first | omega | assumption | (focus (simp; omega))); (first | rfl | assumption | (exact getMap Rq.T Rq0 (by omega))); rfl; rfl; rfl; rfl)
    refine rlir (vs := [.int _ _, .int _ _, .int _ _, .int _ _, .str _]) rfl rfl rfl (Nat.le_of_ble_eq_true rfl) rfl rfl rfl rfl ?_
    refine rcl (p35 (L.getD i Rq0) (hk i (by omega))) rfl rfl rfl rfl rfl rfl ?_
    refine rNil ?_
    refine qSeq ?_
    refine wF rfl ?_
    refine wSkip ?_
    refine qBlock ?_
    refine qSeq ?_
    refine wRegion ?_
    refine raddF rfl rfl rfl ?_ ?_ rfl rfl rfl ?_
    · (first | omega | assumption | (focus (simp; omega)))
    · (first | omega | assumption | (focus (simp; omega)))
    refine rmI rfl rfl rfl rfl rfl ?_
    refine rNil ?_
    refine qLoop ?_
    exact wlH (ih (i + 1) (by omega) (by omega)) (by (repeat first | exact LE.nil _ | refine LE.unk _ _ ?_ | refine LE.eq _ _ _ rfl ?_)) (LessH.refl _) (Nat.le_refl _)
  · refine rNil ?_
    refine qSeq ?_
    refine wSeq ?_
    refine wF rfl ?_
    refine wExit ?_
    refine qSeqX ?_
    refine qLoopX ?_
    refine qBlockX ?_
    refine qSeq ?_
    refine wSeq ?_
    refine wRegion ?_
    refine raI rfl rfl rfl rfl rfl ?_
    refine rNil ?_
    refine qSeq ?_
    refine wRet ?_
    exact finO rfl rfl (fun _ _ _ e => e) (Nat.le_refl _)
theorem o34 (fr nn : Bool) (L : List Rq) (hL : L.length ≤ 200) (hk : ∀ j, j < L.length → (L.getD j Rq0).OK) {h : Heap} {n : Nat} : V.Open En 34 [.sl fr nn (L.map Rq.T), .clo 35 []] h n (.bool false) [] n := by
  refine V.Open.of_wp Try.func34 rfl (Nat.le_of_ble_eq_true rfl) ?_
  refine wSeq ?_
  refine wRegion ?_
  refine raB rfl rfl rfl rfl rfl ?_
  refine rNil ?_
  refine qSeq ?_
  refine wSeq ?_
  refine wRegion ?_
  refine rmL rfl rfl rfl rfl rfl ?_
  refine rmC rfl rfl rfl rfl rfl ?_
  refine rop (o62 fr nn L hL hk) rfl rfl rfl rfl rfl rfl ?_
  refine rge rfl rfl rfl rfl rfl rfl (fun h => absurd h (by decide)) ?_
  intro h1_3
  refine raB rfl rfl rfl rfl rfl ?_
  refine rNil ?_
  refine qSeq ?_
  refine wRet ?_
  exact finO rfl rfl (fun _ _ _ e => e) (Nat.le_refl _)
def zr (_ : Nat) : List T := [.int .i64 0]
theorem getR {α : Type} (f : Nat → α) {k n : Nat} (h : k < n) : ((List.range n).map f)[k]? = some (f k) := by
  simp [h]
theorem o63 (fr nn : Bool) (z : Nat) (hL : z ≤ 200) {h : Heap} {n : Nat} : V.Open En 63 [.sl fr nn ((List.range z).map zr), .clo 37 []] h n (.int .i64 (-1)) [] n := by
  have hl : ((List.range z).map zr).length = z := by simp
  refine V.Open.of_wp Try.func63 rfl (Nat.le_of_ble_eq_true rfl) ?_
  refine wSeq ?_
  refine wRegion ?_
  refine raI rfl rfl rfl rfl rfl ?_
  refine rNil ?_
  refine qSeq ?_
  refine wSeq ?_
  refine wSeq ?_
  refine wRegion ?_
  refine rmL rfl rfl rfl rfl rfl ?_
  refine rll rfl rfl rfl rfl rfl rfl ?_
  refine rmI rfl rfl rfl rfl rfl ?_
  refine rNil ?_
  refine qSeq ?_
  refine wBlock ?_
  refine wLoop ?_
  refine loopGo (fun (i : Nat) => [.sl fr nn ((List.range z).map zr), .clo 37 [], .unk, .unk, .unk, .unk, .unk, .int .i64 ((List.range z).map zr).length, .int .i64 i]) (fun (i : Nat) => h) (fun (i : Nat) => n) (fun (i : Nat) => i ≤ ((List.range z).map zr).length) (fun (i : Nat) => ((List.range z).map zr).length - i) 0 ?_ ?_ ?_ ?_ ?_
  · exact Nat.zero_le _
  · (repeat first | exact LE.nil _ | refine LE.unk _ _ ?_ | refine LE.eq _ _ _ rfl ?_)
  · exact LessH.refl _
  · exact Nat.le_refl _
  intro i hI ih
  refine lStep ?_
  refine wSeq ?_
  refine wRegion ?_
  refine rlt rfl rfl rfl rfl rfl rfl ?_ ?_ <;> intro h2_0
  · refine rNil ?_
    refine qSeq ?_
    refine wSeq ?_
    refine wT rfl ?_
    refine wSkip ?_
    refine qSeq ?_
    refine wSeq ?_
    refine wBlock ?_
    refine wSeq ?_
    refine wRegion ?_
    refine rmI rfl rfl rfl rfl rfl ?_
    refine raI rfl rfl rfl rfl rfl ?_
    refine rNil ?_
    refine qSeq ?_
    refine wSeq ?_
    refine wRegion ?_
    refine rmC rfl rfl rfl rfl rfl ?_
    refine rmL rfl rfl rfl rfl rfl ?_
    refine rmI rfl rfl rfl rfl rfl ?_
    (apply rixl rfl rfl rfl rfl; (first | omega | assumption | (focus (simp; omega))); (first | rfl | assumption | (exact getR zr (by omega))); rfl; rfl; rfl; rfl)
    refine rlic (v := .int _ _) rfl rfl rfl rfl rfl rfl rfl rfl ?_
    refine rcl p37 rfl rfl rfl rfl rfl rfl ?_
    refine rNil ?_
    refine qSeq ?_
    refine wF rfl ?_
    refine wSkip ?_
    refine qBlock ?_
    refine qSeq ?_
    refine wRegion ?_
    refine raddF rfl rfl rfl ?_ ?_ rfl rfl rfl ?_
    · (first | omega | assumption | (focus (simp; omega)))
    · (first | omega | assumption | (focus (simp; omega)))
    refine rmI rfl rfl rfl rfl rfl ?_
    refine rNil ?_
    refine qLoop ?_
    exact wlH (ih (i + 1) (by omega) (by omega)) (by (repeat first | exact LE.nil _ | refine LE.unk _ _ ?_ | refine LE.eq _ _ _ rfl ?_)) (LessH.refl _) (Nat.le_refl _)
  · refine rNil ?_
    refine qSeq ?_
    refine wSeq ?_
    refine wF rfl ?_
    refine wExit ?_
    refine qSeqX ?_
    refine qLoopX ?_
    refine qBlockX ?_
    refine qSeq ?_
    refine wSeq ?_
    refine wRegion ?_
    refine raI rfl rfl rfl rfl rfl ?_
    refine rNil ?_
    refine qSeq ?_
    refine wRet ?_
    exact finO rfl rfl (fun _ _ _ e => e) (Nat.le_refl _)
theorem o36 (fr nn : Bool) (z : Nat) (hL : z ≤ 200) {h : Heap} {n : Nat} : V.Open En 36 [.sl fr nn ((List.range z).map zr), .clo 37 []] h n (.bool false) [] n := by
  refine V.Open.of_wp Try.func36 rfl (Nat.le_of_ble_eq_true rfl) ?_
  refine wSeq ?_
  refine wRegion ?_
  refine raB rfl rfl rfl rfl rfl ?_
  refine rNil ?_
  refine qSeq ?_
  refine wSeq ?_
  refine wRegion ?_
  refine rmL rfl rfl rfl rfl rfl ?_
  refine rmC rfl rfl rfl rfl rfl ?_
  refine rop (o63 fr nn z hL) rfl rfl rfl rfl rfl rfl ?_
  refine rge rfl rfl rfl rfl rfl rfl (fun h => absurd h (by decide)) ?_
  intro h1_3
  refine raB rfl rfl rfl rfl rfl ?_
  refine rNil ?_
  refine qSeq ?_
  refine wRet ?_
  exact finO rfl rfl (fun _ _ _ e => e) (Nat.le_refl _)

end Go.Proofs.Ytnkpjlpappmccaa
