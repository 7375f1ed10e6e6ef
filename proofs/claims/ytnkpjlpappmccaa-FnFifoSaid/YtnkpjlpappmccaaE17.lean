import Derived.Test.YtnkpjlpappmccaaE16
namespace Go.Proofs.Ytnkpjlpappmccaa
open Go.V
set_option linter.unusedVariables false
set_option linter.unusedSimpArgs false
set_option maxRecDepth 20000
set_option maxHeartbeats 4000000

def leF (f : Nat → Int) (i : Nat) : Int := 1 + f i
def Rq.V (r : Rq) : List V := [.int .i64 r.cl, .int .i64 r.st, .int .i64 r.kd, .int .i64 r.le, .str r.nm]
def zrV (_ : Nat) : List V := [.int .i64 0]
theorem rowsRq2 (L : List Rq) : rowsV (L.map Rq.T) = L.map Rq.V := by unfold rowsV; rw [List.map_map]; rfl
theorem rowsZr2 (n : Nat) : rowsV ((List.range n).map zr) = (List.range n).map zrV := by unfold rowsV; rw [List.map_map]; rfl
theorem anL_get (le : Nat → Int) {i j : Nat} (h : j < i) : ((anL le i).map An.T)[j]? = some (anOf le j).T := by simp [anL, h]
theorem p10k (nn : Bool) (D : List Int) (hD : bytes D) (hL : D.length ≤ 1048576) : ∃ k : Nat, k < 3 ∧ Pure En 10 [.one (.sl nn (D.map bT)), .one (.int .i64 0), .one (.int .i64 3)] [.one (.int .i64 (k : Int))] := by
  obtain ⟨r, h1, h2⟩ := p10 nn D hD hL 0 3 (by decide) (by decide)
  obtain ⟨k, rfl⟩ : ∃ k : Nat, r = (k : Int) := ⟨r.toNat, by omega⟩
  exact ⟨k, by omega, h2⟩
theorem nxR0 {N : Nat} (h : 0 < N) : nxR N 0 = 1 + 1 := if_pos h

theorem p4 (n1 n2 : Bool) (B D : List Int) (hB : bytes B) (hD : bytes D) : Pure En 4 [.one (.sl n1 (B.map bT)), .one (.sl n2 (D.map bT))] [.one (.bool true)] := by
  have hl1 : (B.map bT).length = B.length := List.length_map ..
  have hl2 : (D.map bT).length = D.length := List.length_map ..
  obtain ⟨f, hf⟩ := Classical.axiomOfChoice (r := fun (i : Nat) (r : Int) => (0 ≤ r ∧ r < 100) ∧ (i ≤ 3 → B.length ≤ 1048576 → Pure En 10 [.one (.sl n1 (B.map bT)), .one (.int .i64 (i : Int)), .one (.int .i64 100)] [.one (.int .i64 r)])) (fun i => by
    by_cases h : i ≤ 3 ∧ B.length ≤ 1048576
    · obtain ⟨r, h1, h2⟩ := p10 n1 B hB h.2 (i : Int) 100 (by omega) (by decide)
      exact ⟨r, h1, fun _ _ => h2⟩
    · exact ⟨0, by decide, fun h1 h2 => absurd ⟨h1, h2⟩ h⟩)
  have hle : ∀ i, 1 ≤ leF f i ∧ leF f i ≤ 100 := fun i => by have := (hf i).1; unfold leF; omega
  refine Pure.of_wp Try.func4 rfl (Nat.le_of_ble_eq_true rfl) ?_
  refine wSeq ?_
  refine wRegion ?_
  refine raB rfl rfl rfl rfl rfl ?_
  refine rNil ?_
  refine qSeq ?_
  refine wSeq ?_
  refine wSeq ?_
  refine wRegion ?_
  refine rmL rfl rfl rfl rfl rfl ?_
  refine rll rfl rfl rfl rfl rfl rfl ?_
  refine rgt rfl rfl rfl rfl rfl rfl ?_ ?_ <;> intro h1_2
  · refine rmB rfl rfl rfl rfl rfl ?_
    refine rSkip rfl rfl rfl ?_
    refine rSkip rfl rfl rfl ?_
    refine rSkip rfl rfl rfl ?_
    refine rpk (e := true) rfl rfl rfl rfl rfl rfl ?_
    refine rNil ?_
    refine qSeq ?_
    refine wT rfl ?_
    refine wSeq ?_
    refine wRegion ?_
    refine raB rfl rfl rfl rfl rfl ?_
    refine rNil ?_
    refine qSeq ?_
    refine wRet ?_
    refine qSeqR ?_
    exact fin rfl rfl
  · refine rmB rfl rfl rfl rfl rfl ?_
    refine rmL rfl rfl rfl rfl rfl ?_
    refine rll rfl rfl rfl rfl rfl rfl ?_
    refine rgt rfl rfl rfl rfl rfl rfl ?_ ?_ <;> intro h1_6
    · refine rpk (e := true) rfl rfl rfl rfl rfl rfl ?_
      refine rNil ?_
      refine qSeq ?_
      refine wT rfl ?_
      refine wSeq ?_
      refine wRegion ?_
      refine raB rfl rfl rfl rfl rfl ?_
      refine rNil ?_
      refine qSeq ?_
      refine wRet ?_
      refine qSeqR ?_
      exact fin rfl rfl
    · refine rpk (e := false) rfl rfl rfl rfl rfl rfl ?_
      refine rNil ?_
      refine qSeq ?_
      refine wF rfl ?_
      refine wSkip ?_
      refine qSeq ?_
      refine wSeq ?_
      refine wRegion ?_
      refine rmL rfl rfl rfl rfl rfl ?_
      refine rclX (p10k n2 D hD (by omega)) rfl rfl rfl rfl rfl rfl ?_
      rintro k h3_1
      try dsimp only at h3_1
      refine raddF rfl rfl rfl ?_ ?_ rfl rfl rfl ?_
      · (first | omega | (have hq := (hf i).1; omega))
      · (first | omega | (have hq := (hf i).1; omega))
      refine raI rfl rfl rfl rfl rfl ?_
      refine rNil ?_
      refine qSeq ?_
      refine wSeq ?_
      refine wRegion ?_
      refine rbs (es := []) rfl rfl rfl rfl (Nat.succ_ne_zero _) (Nat.le_of_ble_eq_true rfl) rfl rfl rfl rfl rfl ?_
      refine raV rfl rfl rfl rfl rfl ?_
      refine rNil ?_
      refine qSeq ?_
      refine wSeq ?_
      refine wRegion ?_
      refine rbs (es := []) rfl rfl rfl rfl (Nat.succ_ne_zero _) (Nat.le_of_ble_eq_true rfl) rfl rfl rfl rfl rfl ?_
      refine raV rfl rfl rfl rfl rfl ?_
      refine rNil ?_
      refine qSeq ?_
      refine wSeq ?_
      refine wSeq ?_
      refine wRegion ?_
      refine raI rfl rfl rfl rfl rfl ?_
      refine rNil ?_
      refine qSeq ?_
      refine wBlock ?_
      refine wLoop ?_
      refine loopGo (fun (a : Nat × Nat × Nat × Nat) => [.sl false n1 (B.map bT), .sl false n2 (D.map bT), .unk, .unk, .bool false, .int .i64 ((2 + k : Nat) : Int), .view a.2.1 0 a.1, .view a.2.2.1 0 a.1, .int .i64 a.1]) (fun (a : Nat × Nat × Nat × Nat) => hp [(a.2.1, ⟨((List.range a.1).map (rq (leF f))).map Rq.V, 5, 34⟩), (a.2.2.1, ⟨(List.range a.1).map zrV, 1, 3⟩)]) (fun (a : Nat × Nat × Nat × Nat) => a.2.2.2) (fun (a : Nat × Nat × Nat × Nat) => a.1 ≤ 2 + k ∧ a.2.1 < a.2.2.2 ∧ a.2.2.1 < a.2.2.2 ∧ a.2.1 ≠ a.2.2.1) (fun (a : Nat × Nat × Nat × Nat) => 2 + k - a.1) (0, 0, 1, 2) ?_ ?_ ?_ ?_ ?_
      · exact ⟨Nat.zero_le _, by decide, by decide, by decide⟩
      · (repeat first | exact LE.nil _ | refine LE.unk _ _ ?_ | refine LE.eq _ _ _ rfl ?_)
      · (repeat first | exact lessH0 | (refine lessHc ?_ ?_; (first | (first | ((simp (disch := omega) only [↓app0, ↓appC, ↓updS, ↓updN, ↓hpS, ↓hpN]) <;> first | rfl | assumption) | assumption | rfl) | ((simp (disch := omega) only [↓app0, ↓appC, ↓updS, ↓updN, ↓hpS, ↓hpN]) <;> first | exact congrArg (fun z => some (Blk.mk z 5 34)) e1 | exact congrArg (fun z => some (Blk.mk z 1 3)) e2))))
      · exact Nat.le_refl _
      intro ⟨i, qb, zb, m⟩ hI ih
      dsimp only at hI ⊢
      obtain ⟨hi, hq, hz, hx⟩ := hI
      refine lStep ?_
      refine wSeq ?_
      refine wSeq ?_
      refine wRegion ?_
      refine rmI rfl rfl rfl rfl rfl ?_
      refine rmI rfl rfl rfl rfl rfl ?_
      refine rlt rfl rfl rfl rfl rfl rfl ?_ ?_ <;> intro h7_2
      · refine rNil ?_
        refine qSeq ?_
        refine wT rfl ?_
        refine wSkip ?_
        refine qSeq ?_
        refine wSeq ?_
        refine wBlock ?_
        refine wSeq ?_
        refine wRegion ?_
        refine rmV rfl rfl rfl rfl rfl ?_
        refine rmI rfl rfl rfl rfl rfl ?_
        refine rmL rfl rfl rfl rfl rfl ?_
        refine rmI rfl rfl rfl rfl rfl ?_
        refine rcl ((hf i).2 (by omega) (by omega)) rfl rfl rfl rfl rfl rfl ?_
        refine raddF rfl rfl rfl ?_ ?_ rfl rfl rfl ?_
        · (first | omega | (have hq := (hf i).1; omega))
        · (first | omega | (have hq := (hf i).1; omega))
        refine rbd (cs := [.int _ _, .int _ _, .int _ _, .int _ _, .str _]) rfl rfl rfl rfl rfl ?_
        refine rbs (es := [[.int _ _, .int _ _, .int _ _, .int _ _, .str _]]) rfl rfl rfl rfl (Nat.succ_ne_zero _) (Nat.le_of_ble_eq_true rfl) rfl rfl rfl rfl rfl ?_
        (apply rap (s' := 48) (es := [[.int _ _, .int _ _, .int _ _, .int _ _, .str _]]) rfl rfl; (first | ((simp (disch := omega) only [↓app0, ↓appC, ↓updS, ↓updN, ↓hpS, ↓hpN]) <;> first | rfl | assumption) | assumption | rfl); rfl; rfl; (first | rfl | (rw [List.length_map, List.length_map, List.length_range, Nat.zero_add]) | (rw [List.length_map, List.length_range, Nat.zero_add])); rfl; rfl; exact (Nat.succ_ne_zero _); (first | rfl | (apply srcView rfl; (first | ((simp (disch := omega) only [↓app0, ↓appC, ↓updS, ↓updN, ↓hpS, ↓hpN]) <;> first | rfl | assumption) | assumption | rfl); (first | exact Nat.le_refl _ | omega); rfl)); (first | rfl | assumption | (focus (simp; done)) | (intro _ _; simp_all)); (first | omega | (focus (simp only [List.length_cons, List.length_nil]; omega)) | exact Nat.le_of_ble_eq_true rfl | ((show (_ + 1) * _ ≤ _); omega) | ((show _ + 1 ≤ _); omega)); (first | omega | (focus (simp only [List.length_cons, List.length_nil]; omega)) | exact Nat.le_of_ble_eq_true rfl | ((show (_ + 1) * _ ≤ _); omega) | ((show _ + 1 ≤ _); omega)); rfl; rfl; rfl)
        refine raV rfl rfl rfl rfl rfl ?_
        refine rNil ?_
        refine qSeq ?_
        refine wRegion ?_
        refine rmV rfl rfl rfl rfl rfl ?_
        refine rbs (es := [[.int _ _]]) rfl rfl rfl rfl (Nat.succ_ne_zero _) (Nat.le_of_ble_eq_true rfl) rfl rfl rfl rfl rfl ?_
        (apply rap (s' := 8) (es := [[.int _ _]]) rfl rfl; (first | ((simp (disch := omega) only [↓app0, ↓appC, ↓updS, ↓updN, ↓hpS, ↓hpN]) <;> first | rfl | assumption) | assumption | rfl); rfl; rfl; (first | rfl | (rw [List.length_map, List.length_map, List.length_range, Nat.zero_add]) | (rw [List.length_map, List.length_range, Nat.zero_add])); rfl; rfl; exact (Nat.succ_ne_zero _); (first | rfl | (apply srcView rfl; (first | ((simp (disch := omega) only [↓app0, ↓appC, ↓updS, ↓updN, ↓hpS, ↓hpN]) <;> first | rfl | assumption) | assumption | rfl); (first | exact Nat.le_refl _ | omega); rfl)); (first | rfl | assumption | (focus (simp; done)) | (intro _ _; simp_all)); (first | omega | (focus (simp only [List.length_cons, List.length_nil]; omega)) | exact Nat.le_of_ble_eq_true rfl | ((show (_ + 1) * _ ≤ _); omega) | ((show _ + 1 ≤ _); omega)); (first | omega | (focus (simp only [List.length_cons, List.length_nil]; omega)) | exact Nat.le_of_ble_eq_true rfl | ((show (_ + 1) * _ ≤ _); omega) | ((show _ + 1 ≤ _); omega)); rfl; rfl; rfl)
        refine raV rfl rfl rfl rfl rfl ?_
        refine rNil ?_
        refine qBlock ?_
        refine qSeq ?_
        refine wRegion ?_
        refine rmI rfl rfl rfl rfl rfl ?_
        refine raddF rfl rfl rfl ?_ ?_ rfl rfl rfl ?_
        · (first | omega | (have hq := (hf i).1; omega))
        · (first | omega | (have hq := (hf i).1; omega))
        refine raI rfl rfl rfl rfl rfl ?_
        refine rNil ?_
        refine qLoop ?_
        have e1 : ((List.range i).map (rq (leF f))).map Rq.V ++ [(rq (leF f) i).V] = ((List.range (i + 1)).map (rq (leF f))).map Rq.V := by rw [List.range_succ, List.map_append, List.map_append]; rfl
        have e2 : (List.range i).map zrV ++ [[.int .i64 0]] = (List.range (i + 1)).map zrV := by rw [List.range_succ, List.map_append]; rfl
        exact wlH (ih (i + 1, m + 1, m + 3, m + 4) ⟨by dsimp only; omega, by dsimp only; omega, by dsimp only; omega, by dsimp only; omega⟩ (by dsimp only; omega)) (by (repeat first | exact LE.nil _ | refine LE.unk _ _ ?_ | refine LE.eq _ _ _ rfl ?_)) (by dsimp only; (repeat first | exact lessH0 | (refine lessHc ?_ ?_; (first | (first | ((simp (disch := omega) only [↓app0, ↓appC, ↓updS, ↓updN, ↓hpS, ↓hpN]) <;> first | rfl | assumption) | assumption | rfl) | ((simp (disch := omega) only [↓app0, ↓appC, ↓updS, ↓updN, ↓hpS, ↓hpN]) <;> first | exact congrArg (fun z => some (Blk.mk z 5 34)) e1 | exact congrArg (fun z => some (Blk.mk z 1 3)) e2))))) (Nat.le_refl _)
      · refine rNil ?_
        refine qSeq ?_
        refine wF rfl ?_
        refine wExit ?_
        refine qSeqX ?_
        refine qLoopX ?_
        refine qBlockX ?_
        refine qSeq ?_
        refine wSeq ?_
        refine wRegion ?_
        refine rmV rfl rfl rfl rfl rfl ?_
        refine rmV rfl rfl rfl rfl rfl ?_
        apply rclS [qb, zb] (p11 (leF f) i true true (by omega) hle) rfl rfl rfl
        · exact SnapL.cons _ _ _ _ (.one _ _ (snapView (b := ⟨((List.range i).map (rq (leF f))).map Rq.V, 5, 34⟩) (((List.range i).map (rq (leF f))).map Rq.T) (by simp) (by (first | ((simp (disch := omega) only [↓app0, ↓appC, ↓updS, ↓updN, ↓hpS, ↓hpN]) <;> first | rfl | assumption) | assumption | rfl)) (rowsRq2 _).symm (by simp))) (SnapL.cons _ _ _ _ (.one _ _ (snapView (b := ⟨(List.range i).map zrV, 1, 3⟩) ((List.range i).map zr) (by simp) (by (first | ((simp (disch := omega) only [↓app0, ↓appC, ↓updS, ↓updN, ↓hpS, ↓hpN]) <;> first | rfl | assumption) | assumption | rfl)) (rowsZr2 _).symm (by simp))) SnapL.nil)
        · rfl
        · rfl
        · rfl
        refine rmT rfl rfl rfl rfl rfl ?_
        refine rex rfl rfl rfl rfl rfl rfl ?_
        refine rex rfl rfl rfl rfl rfl rfl ?_
        refine rex rfl rfl rfl rfl rfl rfl ?_
        refine ral rfl rfl rfl rfl rfl rfl ?_
        (apply rst (u := .agg [.int _ _, .int _ _, _, _]) rfl rfl rfl; (first | ((simp (disch := omega) only [↓app0, ↓appC, ↓updS, ↓updN, ↓hpS, ↓hpN]) <;> first | rfl | assumption) | assumption | rfl); rfl; rfl; rfl; rfl; rfl; (exact Nat.le_of_ble_eq_true rfl); rfl; rfl; rfl)
        refine raL rfl rfl rfl rfl rfl ?_
        refine raI rfl rfl rfl rfl rfl ?_
        refine rNil ?_
        refine qSeq ?_
        refine wSeq ?_
        refine wSeq ?_
        refine wRegion ?_
        refine rmI rfl rfl rfl rfl rfl ?_
        refine rne rfl rfl rfl rfl rfl rfl (fun h => absurd h (fun h => h rfl)) ?_
        intro h12_1
        refine rmB rfl rfl rfl rfl rfl ?_
        refine rmL rfl rfl rfl rfl rfl ?_
        refine rll rfl rfl rfl rfl rfl rfl ?_
        refine rmI rfl rfl rfl rfl rfl ?_
        refine rne rfl rfl rfl rfl rfl rfl (fun h => absurd h (fun h => h (by rw [List.length_map, anL_length]; omega))) ?_
        intro h12_6
        refine rpk (e := false) rfl rfl rfl rfl rfl rfl ?_
        refine rmB rfl rfl rfl rfl rfl ?_
        refine rmL rfl rfl rfl rfl rfl ?_
        (apply rixl rfl rfl rfl rfl; (first | omega | assumption | (focus (simp; omega))); (first | rfl | assumption | (first | exact anL_get (leF f) (show (0 : Int).toNat < i by show 0 < i; omega) | exact anL_get (leF f) (by omega))); rfl; rfl; rfl; rfl)
        refine rfai (off := 0) (s := 1) (r := false) rfl rfl rfl (Nat.succ_ne_zero _) rfl rfl rfl rfl ?_
        refine rlic (v := .int _ _) rfl rfl rfl rfl rfl rfl rfl rfl ?_
        refine rne rfl rfl rfl rfl rfl rfl (fun h => absurd h (fun h => h rfl)) ?_
        intro h12_13
        refine rpk (e := false) rfl rfl rfl rfl rfl rfl ?_
        refine rNil ?_
        refine qSeq ?_
        refine wF rfl ?_
        refine wSkip ?_
        refine qSeq ?_
        refine wSeq ?_
        refine wSeq ?_
        refine wRegion ?_
        refine raI rfl rfl rfl rfl rfl ?_
        refine rNil ?_
        refine qSeq ?_
        refine wBlock ?_
        refine wLoop ?_
        refine loopGo (fun (b : Nat × List Sn × Nat) => [.unk, .unk, .unk, .unk, .bool false, .int .i64 ((2 + k : Nat) : Int), .unk, .unk, .unk, .ptr m 0 0, .sl true true ((anL (leF f) i).map An.T), .unk, .int .i64 b.1]) (fun (b : Nat × List Sn × Nat) => hp [(m, ⟨[[.int .i64 0, .int .i64 (nxR i b.1), .sl true true [(lkR (leF f) i b.1).T2], .sl true true (b.2.1.map Sn.T)]], 4, 38⟩)]) (fun (b : Nat × List Sn × Nat) => b.2.2) (fun (b : Nat × List Sn × Nat) => b.1 ≤ i ∧ invR i b.1 b.2.1 ∧ m < b.2.2) (fun (b : Nat × List Sn × Nat) => i - b.1) (0, snL (leF f) i, m + 1) ?_ ?_ ?_ ?_ ?_
        · exact ⟨Nat.zero_le _, inv0 (leF f) hle (by omega), Nat.lt_succ_self _⟩
        · (repeat first | exact LE.nil _ | refine LE.unk _ _ ?_ | refine LE.eq _ _ _ rfl ?_)
        · (repeat first | exact lessH0 | (refine lessHc ?_ ?_; (first | (first | ((simp (disch := omega) only [↓app0, ↓appC, ↓updS, ↓updN, ↓hpS, ↓hpN]) <;> first | rfl | assumption) | assumption | rfl) | ((simp (disch := omega) only [↓app0, ↓appC, ↓updS, ↓updN, ↓hpS, ↓hpN]) <;> exact congrArg (fun z => some (Blk.mk [z] 4 38)) (show [V.int .i64 0, .int .i64 (1 + 1), .sl true true [(lkOf (leF f) i).T2], .sl true true ((snL (leF f) i).map Sn.T)] = _ by rw [← lkR_zero (leF f) (show 0 < i by omega), ← nxR0 (show 0 < i by omega)])))))
        · exact Nat.le_refl _
        intro ⟨j, S, m2⟩ hI ih
        dsimp only at hI ⊢
        obtain ⟨hj, hS, hm2⟩ := hI
        refine lStep ?_
        refine wSeq ?_
        refine wSeq ?_
        refine wRegion ?_
        refine rmI rfl rfl rfl rfl rfl ?_
        refine rmI rfl rfl rfl rfl rfl ?_
        refine rlt rfl rfl rfl rfl rfl rfl ?_ ?_ <;> intro h15_2
        · refine rNil ?_
          refine qSeq ?_
          refine wT rfl ?_
          refine wSkip ?_
          refine qSeq ?_
          refine wSeq ?_
          refine wBlock ?_
          refine wSeq ?_
          refine wRegion ?_
          (apply rlr (vs := [.int _ _, .int _ _, _, _]) rfl rfl; (first | ((simp (disch := omega) only [↓app0, ↓appC, ↓updS, ↓updN, ↓hpS, ↓hpN]) <;> first | rfl | assumption) | assumption | rfl); rfl; rfl; (exact Nat.le_of_ble_eq_true rfl); rfl; rfl; rfl; rfl)
          refine rcl (p12R (leF f) hle (i := j) (N := i) (by omega) (by omega) hS) rfl rfl rfl rfl rfl rfl ?_
          refine rmT rfl rfl rfl rfl rfl ?_
          refine rex rfl rfl rfl rfl rfl rfl ?_
          refine rex rfl rfl rfl rfl rfl rfl ?_
          refine ral rfl rfl rfl rfl rfl rfl ?_
          (apply rst (u := .agg [.str _, .int _ _, .int _ _, .int _ _, _]) rfl rfl rfl; (first | ((simp (disch := omega) only [↓app0, ↓appC, ↓updS, ↓updN, ↓hpS, ↓hpN]) <;> first | rfl | assumption) | assumption | rfl); rfl; rfl; rfl; rfl; rfl; (exact Nat.le_of_ble_eq_true rfl); rfl; rfl; rfl)
          refine raI rfl rfl rfl rfl rfl ?_
          refine rNil ?_
          refine qSeq ?_
          refine wSeq ?_
          refine wSeq ?_
          refine wRegion ?_
          refine rmI rfl rfl rfl rfl rfl ?_
          refine rne rfl rfl rfl rfl rfl rfl (fun h => absurd h (fun h => h rfl)) ?_
          intro h18_1
          refine rmB rfl rfl rfl rfl rfl ?_
          refine rfa (off := 2) (s := 1) (r := false) rfl rfl rfl (Nat.succ_ne_zero _) rfl rfl rfl ?_
          (apply rlc (v := .int _ _) rfl rfl; (first | ((simp (disch := omega) only [↓app0, ↓appC, ↓updS, ↓updN, ↓hpS, ↓hpN]) <;> first | rfl | assumption) | assumption | rfl); rfl; rfl; rfl; rfl; rfl; rfl)
          refine rmI rfl rfl rfl rfl rfl ?_
          refine rne rfl rfl rfl rfl rfl rfl (fun h => absurd h (fun h => h (congrArg Lk.hd (lkR_lt _ (by omega))))) ?_
          intro h18_6
          refine rpk (e := false) rfl rfl rfl rfl rfl rfl ?_
          refine rmB rfl rfl rfl rfl rfl ?_
          refine rfa (off := 1) (s := 1) (r := false) rfl rfl rfl (Nat.succ_ne_zero _) rfl rfl rfl ?_
          (apply rlc (v := .int _ _) rfl rfl; (first | ((simp (disch := omega) only [↓app0, ↓appC, ↓updS, ↓updN, ↓hpS, ↓hpN]) <;> first | rfl | assumption) | assumption | rfl); rfl; rfl; rfl; rfl; rfl; rfl)
          refine rmI rfl rfl rfl rfl rfl ?_
          refine raddF rfl rfl rfl ?_ ?_ rfl rfl rfl ?_
          · (first | omega | (have hq := (hf i).1; omega))
          · (first | omega | (have hq := (hf i).1; omega))
          refine rne rfl rfl rfl rfl rfl rfl (fun h => absurd h (fun h => h (congrArg Lk.tk (lkR_lt _ (by omega))))) ?_
          intro h18_13
          refine rpk (e := false) rfl rfl rfl rfl rfl rfl ?_
          refine rmB rfl rfl rfl rfl rfl ?_
          refine rmI rfl rfl rfl rfl rfl ?_
          refine rgt rfl rfl rfl rfl rfl rfl ?_ ?_ <;> intro h18_17
          · refine rmB rfl rfl rfl rfl rfl ?_
            refine rmL rfl rfl rfl rfl rfl ?_
            refine rmI rfl rfl rfl rfl rfl ?_
            (apply rixl rfl rfl rfl rfl; (first | omega | assumption | (focus (simp; omega))); (first | rfl | assumption | (first | exact anL_get (leF f) (show (0 : Int).toNat < i by show 0 < i; omega) | exact anL_get (leF f) (by omega))); rfl; rfl; rfl; rfl)
            refine rfai (off := 0) (s := 1) (r := false) rfl rfl rfl (Nat.succ_ne_zero _) rfl rfl rfl rfl ?_
            refine rlic (v := .int _ _) rfl rfl rfl rfl rfl rfl rfl rfl ?_
            refine rne rfl rfl rfl rfl rfl rfl (fun h => absurd h (fun h => h (by rw [Int.toNat_natCast]; exact if_neg (by omega)))) ?_
            intro h18_24
            refine rpk (e := false) rfl rfl rfl rfl rfl rfl ?_
            refine rpk (e := false) rfl rfl rfl rfl rfl rfl ?_
            refine rNil ?_
            refine qSeq ?_
            refine wF rfl ?_
            refine wSkip ?_
            refine qSeq ?_
            refine wSeq ?_
            refine wRegion ?_
            (apply rlr (vs := [.int _ _, .int _ _, _, _]) rfl rfl; (first | ((simp (disch := omega) only [↓app0, ↓appC, ↓updS, ↓updN, ↓hpS, ↓hpN]) <;> first | rfl | assumption) | assumption | rfl); rfl; rfl; (exact Nat.le_of_ble_eq_true rfl); rfl; rfl; rfl; rfl)
            refine rmI rfl rfl rfl rfl rfl ?_
            refine rbd (cs := [.int _ _, .int _ _, .int _ _, .int _ _, .str _]) rfl rfl rfl rfl rfl ?_
            refine rclX (p13R (leF f) hle (i := j) (N := i) (by omega) (by omega) hS) rfl rfl rfl rfl rfl rfl ?_
            rintro ⟨S2, an⟩ h20_3
            try dsimp only at h20_3
            refine rmT rfl rfl rfl rfl rfl ?_
            refine rex rfl rfl rfl rfl rfl rfl ?_
            refine rex rfl rfl rfl rfl rfl rfl ?_
            refine rex rfl rfl rfl rfl rfl rfl ?_
            refine ral rfl rfl rfl rfl rfl rfl ?_
            refine ral rfl rfl rfl rfl rfl rfl ?_
            (apply rst (u := .agg [.int _ _, .int _ _, _, _]) rfl rfl rfl; (first | ((simp (disch := omega) only [↓app0, ↓appC, ↓updS, ↓updN, ↓hpS, ↓hpN]) <;> first | rfl | assumption) | assumption | rfl); rfl; rfl; rfl; rfl; rfl; (exact Nat.le_of_ble_eq_true rfl); rfl; rfl; rfl)
            (apply rst (u := .agg [.int _ _, .int _ _, .int _ _, .int _ _]) rfl rfl rfl; (first | ((simp (disch := omega) only [↓app0, ↓appC, ↓updS, ↓updN, ↓hpS, ↓hpN]) <;> first | rfl | assumption) | assumption | rfl); rfl; rfl; rfl; rfl; rfl; (exact Nat.le_of_ble_eq_true rfl); rfl; rfl; rfl)
            refine raI rfl rfl rfl rfl rfl ?_
            refine rNil ?_
            refine qSeq ?_
            refine wSeq ?_
            refine wSeq ?_
            refine wRegion ?_
            refine rmI rfl rfl rfl rfl rfl ?_
            refine rne rfl rfl rfl rfl rfl rfl (fun h => absurd h (fun h => h rfl)) ?_
            intro h21_1
            refine rmB rfl rfl rfl rfl rfl ?_
            refine rfa (off := 0) (s := 1) (r := false) rfl rfl rfl (Nat.succ_ne_zero _) rfl rfl rfl ?_
            (apply rlc (v := .int _ _) rfl rfl; (first | ((simp (disch := omega) only [↓app0, ↓appC, ↓updS, ↓updN, ↓hpS, ↓hpN]) <;> first | rfl | assumption) | assumption | rfl); rfl; rfl; rfl; rfl; rfl; rfl)
            refine rne rfl rfl rfl rfl rfl rfl (fun h => absurd h (fun h => h h20_3.2)) ?_
            intro h21_5
            refine rpk (e := false) rfl rfl rfl rfl rfl rfl ?_
            refine rNil ?_
            refine qSeq ?_
            refine wF rfl ?_
            refine wSkip ?_
            refine qSeq ?_
            refine wRegion ?_
            (apply rlr (vs := [.int _ _, .int _ _, _, _]) rfl rfl; (first | ((simp (disch := omega) only [↓app0, ↓appC, ↓updS, ↓updN, ↓hpS, ↓hpN]) <;> first | rfl | assumption) | assumption | rfl); rfl; rfl; (exact Nat.le_of_ble_eq_true rfl); rfl; rfl; rfl; rfl)
            (apply rst (u := .agg [.int _ _, .int _ _, _, _]) rfl rfl rfl; (first | ((simp (disch := omega) only [↓app0, ↓appC, ↓updS, ↓updN, ↓hpS, ↓hpN]) <;> first | rfl | assumption) | assumption | rfl); rfl; rfl; rfl; rfl; rfl; (exact Nat.le_of_ble_eq_true rfl); rfl; rfl; rfl)
            refine rNil ?_
            refine qBlock ?_
            refine qSeq ?_
            refine wRegion ?_
            refine rmI rfl rfl rfl rfl rfl ?_
            refine raddF rfl rfl rfl ?_ ?_ rfl rfl rfl ?_
            · (first | omega | (have hq := (hf i).1; omega))
            · (first | omega | (have hq := (hf i).1; omega))
            refine raI rfl rfl rfl rfl rfl ?_
            refine rNil ?_
            refine qLoop ?_
            exact wlH (ih (j + 1, S2, m2 + 3) ⟨by dsimp only; omega, h20_3.1, by dsimp only; omega⟩ (by dsimp only; omega)) (by (repeat first | exact LE.nil _ | refine LE.unk _ _ ?_ | refine LE.eq _ _ _ rfl ?_)) (by dsimp only; (repeat first | exact lessH0 | (refine lessHc ?_ ?_; (first | (first | ((simp (disch := omega) only [↓app0, ↓appC, ↓updS, ↓updN, ↓hpS, ↓hpN]) <;> first | rfl | assumption) | assumption | rfl) | ((simp (disch := omega) only [↓app0, ↓appC, ↓updS, ↓updN, ↓hpS, ↓hpN]) <;> exact congrArg (fun z => some (Blk.mk [z] 4 38)) (show [V.int .i64 0, .int .i64 (1 + 1), .sl true true [(lkOf (leF f) i).T2], .sl true true ((snL (leF f) i).map Sn.T)] = _ by rw [← lkR_zero (leF f) (show 0 < i by omega), ← nxR0 (show 0 < i by omega)])))))) (Nat.le_refl _)
          · refine rmB rfl rfl rfl rfl rfl ?_
            refine rSkip rfl rfl rfl ?_
            refine rSkip rfl rfl rfl ?_
            refine rSkip rfl rfl rfl ?_
            refine rSkip rfl rfl rfl ?_
            refine rSkip rfl rfl rfl ?_
            refine rSkip rfl rfl rfl ?_
            refine rpk (e := false) rfl rfl rfl rfl rfl rfl ?_
            refine rpk (e := false) rfl rfl rfl rfl rfl rfl ?_
            refine rNil ?_
            refine qSeq ?_
            refine wF rfl ?_
            refine wSkip ?_
            refine qSeq ?_
            refine wSeq ?_
            refine wRegion ?_
            (apply rlr (vs := [.int _ _, .int _ _, _, _]) rfl rfl; (first | ((simp (disch := omega) only [↓app0, ↓appC, ↓updS, ↓updN, ↓hpS, ↓hpN]) <;> first | rfl | assumption) | assumption | rfl); rfl; rfl; (exact Nat.le_of_ble_eq_true rfl); rfl; rfl; rfl; rfl)
            refine rmI rfl rfl rfl rfl rfl ?_
            refine rbd (cs := [.int _ _, .int _ _, .int _ _, .int _ _, .str _]) rfl rfl rfl rfl rfl ?_
            refine rclX (p13R (leF f) hle (i := j) (N := i) (by omega) (by omega) hS) rfl rfl rfl rfl rfl rfl ?_
            rintro ⟨S2, an⟩ h20_3
            try dsimp only at h20_3
            refine rmT rfl rfl rfl rfl rfl ?_
            refine rex rfl rfl rfl rfl rfl rfl ?_
            refine rex rfl rfl rfl rfl rfl rfl ?_
            refine rex rfl rfl rfl rfl rfl rfl ?_
            refine ral rfl rfl rfl rfl rfl rfl ?_
            refine ral rfl rfl rfl rfl rfl rfl ?_
            (apply rst (u := .agg [.int _ _, .int _ _, _, _]) rfl rfl rfl; (first | ((simp (disch := omega) only [↓app0, ↓appC, ↓updS, ↓updN, ↓hpS, ↓hpN]) <;> first | rfl | assumption) | assumption | rfl); rfl; rfl; rfl; rfl; rfl; (exact Nat.le_of_ble_eq_true rfl); rfl; rfl; rfl)
            (apply rst (u := .agg [.int _ _, .int _ _, .int _ _, .int _ _]) rfl rfl rfl; (first | ((simp (disch := omega) only [↓app0, ↓appC, ↓updS, ↓updN, ↓hpS, ↓hpN]) <;> first | rfl | assumption) | assumption | rfl); rfl; rfl; rfl; rfl; rfl; (exact Nat.le_of_ble_eq_true rfl); rfl; rfl; rfl)
            refine raI rfl rfl rfl rfl rfl ?_
            refine rNil ?_
            refine qSeq ?_
            refine wSeq ?_
            refine wSeq ?_
            refine wRegion ?_
            refine rmI rfl rfl rfl rfl rfl ?_
            refine rne rfl rfl rfl rfl rfl rfl (fun h => absurd h (fun h => h rfl)) ?_
            intro h21_1
            refine rmB rfl rfl rfl rfl rfl ?_
            refine rfa (off := 0) (s := 1) (r := false) rfl rfl rfl (Nat.succ_ne_zero _) rfl rfl rfl ?_
            (apply rlc (v := .int _ _) rfl rfl; (first | ((simp (disch := omega) only [↓app0, ↓appC, ↓updS, ↓updN, ↓hpS, ↓hpN]) <;> first | rfl | assumption) | assumption | rfl); rfl; rfl; rfl; rfl; rfl; rfl)
            refine rne rfl rfl rfl rfl rfl rfl (fun h => absurd h (fun h => h h20_3.2)) ?_
            intro h21_5
            refine rpk (e := false) rfl rfl rfl rfl rfl rfl ?_
            refine rNil ?_
            refine qSeq ?_
            refine wF rfl ?_
            refine wSkip ?_
            refine qSeq ?_
            refine wRegion ?_
            (apply rlr (vs := [.int _ _, .int _ _, _, _]) rfl rfl; (first | ((simp (disch := omega) only [↓app0, ↓appC, ↓updS, ↓updN, ↓hpS, ↓hpN]) <;> first | rfl | assumption) | assumption | rfl); rfl; rfl; (exact Nat.le_of_ble_eq_true rfl); rfl; rfl; rfl; rfl)
            (apply rst (u := .agg [.int _ _, .int _ _, _, _]) rfl rfl rfl; (first | ((simp (disch := omega) only [↓app0, ↓appC, ↓updS, ↓updN, ↓hpS, ↓hpN]) <;> first | rfl | assumption) | assumption | rfl); rfl; rfl; rfl; rfl; rfl; (exact Nat.le_of_ble_eq_true rfl); rfl; rfl; rfl)
            refine rNil ?_
            refine qBlock ?_
            refine qSeq ?_
            refine wRegion ?_
            refine rmI rfl rfl rfl rfl rfl ?_
            refine raddF rfl rfl rfl ?_ ?_ rfl rfl rfl ?_
            · (first | omega | (have hq := (hf i).1; omega))
            · (first | omega | (have hq := (hf i).1; omega))
            refine raI rfl rfl rfl rfl rfl ?_
            refine rNil ?_
            refine qLoop ?_
            exact wlH (ih (j + 1, S2, m2 + 3) ⟨by dsimp only; omega, h20_3.1, by dsimp only; omega⟩ (by dsimp only; omega)) (by (repeat first | exact LE.nil _ | refine LE.unk _ _ ?_ | refine LE.eq _ _ _ rfl ?_)) (by dsimp only; (repeat first | exact lessH0 | (refine lessHc ?_ ?_; (first | (first | ((simp (disch := omega) only [↓app0, ↓appC, ↓updS, ↓updN, ↓hpS, ↓hpN]) <;> first | rfl | assumption) | assumption | rfl) | ((simp (disch := omega) only [↓app0, ↓appC, ↓updS, ↓updN, ↓hpS, ↓hpN]) <;> exact congrArg (fun z => some (Blk.mk [z] 4 38)) (show [V.int .i64 0, .int .i64 (1 + 1), .sl true true [(lkOf (leF f) i).T2], .sl true true ((snL (leF f) i).map Sn.T)] = _ by rw [← lkR_zero (leF f) (show 0 < i by omega), ← nxR0 (show 0 < i by omega)])))))) (Nat.le_refl _)
        · refine rNil ?_
          refine qSeq ?_
          refine wF rfl ?_
          refine wExit ?_
          refine qSeqX ?_
          refine qLoopX ?_
          refine qBlockX ?_
          refine qSeq ?_
          refine wSeq ?_
          refine wRegion ?_
          (apply rlr (vs := [.int _ _, .int _ _, _, _]) rfl rfl; (first | ((simp (disch := omega) only [↓app0, ↓appC, ↓updS, ↓updN, ↓hpS, ↓hpN]) <;> first | rfl | assumption) | assumption | rfl); rfl; rfl; (exact Nat.le_of_ble_eq_true rfl); rfl; rfl; rfl; rfl)
          refine rcl (p12R (leF f) hle (i := j) (N := i) (by omega) (by omega) hS) rfl rfl rfl rfl rfl rfl ?_
          refine rmT rfl rfl rfl rfl rfl ?_
          refine rex rfl rfl rfl rfl rfl rfl ?_
          refine rex rfl rfl rfl rfl rfl rfl ?_
          refine ral rfl rfl rfl rfl rfl rfl ?_
          (apply rst (u := .agg [.str _, .int _ _, .int _ _, .int _ _, _]) rfl rfl rfl; (first | ((simp (disch := omega) only [↓app0, ↓appC, ↓updS, ↓updN, ↓hpS, ↓hpN]) <;> first | rfl | assumption) | assumption | rfl); rfl; rfl; rfl; rfl; rfl; (exact Nat.le_of_ble_eq_true rfl); rfl; rfl; rfl)
          refine raI rfl rfl rfl rfl rfl ?_
          refine rNil ?_
          refine qSeq ?_
          refine wSeq ?_
          refine wRegion ?_
          refine rmI rfl rfl rfl rfl rfl ?_
          refine req rfl rfl rfl rfl rfl rfl ?_ (fun h => absurd (rfl) h)
          intro h25_1
          refine rmB rfl rfl rfl rfl rfl ?_
          refine rfa (off := 2) (s := 1) (r := false) rfl rfl rfl (Nat.succ_ne_zero _) rfl rfl rfl ?_
          (apply rlc (v := .int _ _) rfl rfl; (first | ((simp (disch := omega) only [↓app0, ↓appC, ↓updS, ↓updN, ↓hpS, ↓hpN]) <;> first | rfl | assumption) | assumption | rfl); rfl; rfl; rfl; rfl; rfl; rfl)
          refine req rfl rfl rfl rfl rfl rfl ?_ (fun h => absurd ((by have e : j = i := (by omega); rw [e]; exact congrArg Lk.hd (lkR_end _ _))) h)
          intro h25_5
          refine rpk (e := true) rfl rfl rfl rfl rfl rfl ?_
          refine raB rfl rfl rfl rfl rfl ?_
          refine rNil ?_
          refine qSeq ?_
          refine wRet ?_
          exact fin rfl rfl

end Go.Proofs.Ytnkpjlpappmccaa
