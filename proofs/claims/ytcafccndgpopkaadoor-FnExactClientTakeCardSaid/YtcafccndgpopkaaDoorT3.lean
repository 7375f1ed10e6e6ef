import Derived.Test.YtcafccndgpopkaaDoorT2
namespace Go.Proofs.YtcafccndgpopkaaDoor
open Go.V
set_option linter.unusedVariables false
set_option linter.unusedSimpArgs false
set_option maxRecDepth 20000
set_option maxHeartbeats 4000000

/-! spec's hash, as it is written there. -/
def ws4 (x : Int) : List Int := [IntKind.u8.wrap (sr x 24), IntKind.u8.wrap (sr x 16), IntKind.u8.wrap (sr x 8), IntKind.u8.wrap x]
def outL (q : W8) : Nat → List Int
  | 0 => []
  | i + 1 => outL q i ++ ws4 (q.L.getD i 0)
theorem outL_zero (q : W8) : outL q 0 = [] := rfl
theorem outL_succ (q : W8) (i : Nat) : outL q (i + 1) = outL q i ++ ws4 (q.L.getD i 0) := rfl
theorem outL_length (q : W8) : ∀ i, (outL q i).length = 4 * i
  | 0 => rfl
  | i + 1 => by rw [outL_succ, List.length_append, outL_length q i]; rfl
def bt8 (x i : Int) : Int := IntKind.u8.wrap (x.fdiv (2 ^ (min (IntKind.u64.wrap (8 * i)).toNat IntKind.i64.bits)))
def lenL (x : Int) : Nat → List Int
  | 0 => []
  | j + 1 => lenL x j ++ [bt8 x (7 - (j : Int))]
theorem lenL_zero (x : Int) : lenL x 0 = [] := rfl
theorem lenL_succ (x : Int) (j : Nat) : lenL x (j + 1) = lenL x j ++ [bt8 x (7 - (j : Int))] := rfl
theorem lenL_length (x : Int) : ∀ j, (lenL x j).length = j
  | 0 => rfl
  | j + 1 => by rw [lenL_succ, List.length_append, lenL_length x j]; rfl
def padB (B : List Int) : List Int := B ++ 128 :: List.replicate ((120 - (B.length + 1) % 64) % 64) 0
def shaB (B : List Int) : List Int := padB B ++ lenL (8 * (B.length : Int)) 8
def hashB (B : List Int) : ByteArray := strOf (outL (blks (shaB B) ((shaB B).length / 64)) 8)
attribute [irreducible] outL lenL
theorem rowsBf (fr : Bool) (B : List Int) : ((B.map bT).map fun r => r.map (T.toV fr)) = B.map bV := by rw [List.map_map]; rfl
theorem lenBf (fr : Bool) (B : List Int) : ∀ c ∈ ((B.map bT).map fun r => r.map (T.toV fr)), c.length = 1 := by
  rw [rowsBf]; intro c hc; obtain ⟨r, _, rfl⟩ := List.mem_map.1 hc; rfl
theorem e103 (nn : Bool) (B : List Int) (hL : B.length ≤ 1000000) : Pure En 103 [.one (.sl nn (B.map bT))] [.one (.str (hashB B))] := by
  have hraw : (0 + ((B.map bT).map fun x => x.map (T.toV false)).length + 1) = B.length + 1 := by simp
  have hl1 : (B.map bT).length = B.length := List.length_map ..
  have e1 : ((B.map bT).map fun x => x.map (T.toV false)) ++ [[V.int .u8 128]] = (B ++ [128]).map bV := by rw [rowsBf, List.map_append]; rfl
  refine Pure.of_wp Tryd.func103 rfl (Nat.le_of_ble_eq_true rfl) ?_
  refine wSeq ?_
  refine wRegion ?_
  refine raS rfl rfl rfl rfl rfl ?_
  refine rNil ?_
  refine qSeq ?_
  refine wSeq ?_
  refine wRegion ?_
  refine rbs (es := [[.int _ _], [.int _ _], [.int _ _], [.int _ _], [.int _ _], [.int _ _], [.int _ _], [.int _ _]]) rfl rfl rfl rfl (Nat.succ_ne_zero _) (Nat.le_of_ble_eq_true rfl) rfl rfl rfl rfl rfl ?_
  refine raV rfl rfl rfl rfl rfl ?_
  refine rNil ?_
  refine qSeq ?_
  refine wSeq ?_
  refine wRegion ?_
  refine rbs (es := []) rfl rfl rfl rfl (Nat.succ_ne_zero _) (Nat.le_of_ble_eq_true rfl) rfl rfl rfl rfl rfl ?_
  refine rmL rfl rfl rfl rfl rfl ?_
  (apply rap (s' := 1) rfl rfl; (first | ((simp (disch := omega) only [↓app0, ↓appC, ↓updS, ↓updN, ↓hpS, ↓hpN]) <;> first | rfl | assumption) | assumption | rfl); rfl; rfl; rfl; rfl; rfl; exact (Nat.succ_ne_zero _); rfl; exact (lenBf false B); (simp only [List.length_map]; omega); (simp only [List.length_map]; omega); rfl; rfl; rfl)
  refine rbs (es := [[.int _ _]]) rfl rfl rfl rfl (Nat.succ_ne_zero _) (Nat.le_of_ble_eq_true rfl) rfl rfl rfl rfl rfl ?_
  (apply rap (s' := 1) (es := [[.int .u8 128]]) rfl rfl; (first | ((simp (disch := omega) only [↓app0, ↓appC, ↓updS, ↓updN, ↓hpS, ↓hpN]) <;> first | rfl | assumption) | assumption | rfl); rfl; rfl; (first | rfl | (simp)); rfl; rfl; exact (Nat.succ_ne_zero _); (apply srcView rfl; (first | ((simp (disch := omega) only [↓app0, ↓appC, ↓updS, ↓updN, ↓hpS, ↓hpN]) <;> first | rfl | assumption) | assumption | rfl); exact Nat.le_refl _; rfl); (intro c hc; rw [List.mem_singleton] at hc; subst hc; rfl); (simp only [List.length_map, List.length_singleton]; omega); (simp only [List.length_map, List.length_singleton]; omega); rfl; rfl; rfl)
  refine raV rfl rfl rfl rfl rfl ?_
  refine rNil ?_
  refine qSeq ?_
  refine wSeq ?_
  refine wBlock ?_
  refine wLoop ?_
  refine loopGo (fun (a : List Int × Nat × Nat × Nat × Nat) => [.sl false nn (B.map bT), .unk, .unk, .view 0 0 8, .view a.2.2.1 0 a.2.1]) (fun (a : List Int × Nat × Nat × Nat × Nat) => hp [(0, ⟨q0.L.map uV, 1, 146⟩), (a.2.2.1, ⟨a.1.map bV, 1, 5⟩)]) (fun (a : List Int × Nat × Nat × Nat × Nat) => a.2.2.2.1) (fun (a : List Int × Nat × Nat × Nat × Nat) => a.1.length = a.2.1 ∧ (0 < a.2.2.1 ∧ a.2.2.1 < a.2.2.2.1) ∧ B.length < a.2.1 ∧ a.2.1 + (120 - a.2.1 % 64) % 64 ≤ B.length + 100 ∧ a.1 = B ++ 128 :: List.replicate a.2.2.2.2 0 ∧ a.2.2.2.2 + (120 - a.2.1 % 64) % 64 = (120 - (B.length + 1) % 64) % 64) (fun (a : List Int × Nat × Nat × Nat × Nat) => (120 - a.2.1 % 64) % 64) (B ++ [128], (0 + ((B.map bT).map fun x => x.map (T.toV false)).length + 1), 4, 5, 0) ?_ ?_ ?_ ?_ ?_
  · exact ⟨by dsimp only; rw [hraw, List.length_append]; rfl, ⟨by dsimp only; decide, by dsimp only; decide⟩, by dsimp only; omega, by dsimp only; omega, rfl, by dsimp only; rw [hraw]; omega⟩
  · (repeat first | exact LE.nil _ | refine LE.unk _ _ ?_ | refine LE.eq _ _ _ rfl ?_)
  · dsimp only
    (repeat first | exact lessH0 | (refine lessHc ?_ ?_; (first | (first | ((simp (disch := omega) only [↓app0, ↓appC, ↓updS, ↓updN, ↓hpS, ↓hpN]) <;> first | rfl | assumption) | assumption | rfl) | (first | (focus ((simp (disch := omega) only [↓app0, ↓appC, ↓updS, ↓updN, ↓hpS, ↓hpN]); exact congrArg (fun z => some (Blk.mk z 1 5)) e1))))))
  · exact Nat.le_refl _
  intro ⟨L, ln, id, m, z⟩ hI ih
  dsimp only at hI ⊢
  have hP := hI
  refine lStep ?_
  refine wSeq ?_
  refine wSeq ?_
  refine wRegion ?_
  refine rmV rfl rfl rfl rfl rfl ?_
  refine rll rfl rfl rfl rfl rfl rfl ?_
  refine rrem rfl rfl rfl ?_ rfl rfl rfl ?_
  · (first | omega | assumption | decide | exact wrap_nn _ | (focus (simp; done)) | (focus (simp; omega)))
  refine rne rfl rfl rfl rfl rfl rfl ?_ ?_ <;> intro h3_3
  · refine rNil ?_
    refine qSeq ?_
    refine wT rfl ?_
    refine wSkip ?_
    refine qSeq ?_
    refine wBlock ?_
    refine wRegion ?_
    refine rmV rfl rfl rfl rfl rfl ?_
    refine rbs (es := [[.int _ _]]) rfl rfl rfl rfl (Nat.succ_ne_zero _) (Nat.le_of_ble_eq_true rfl) rfl rfl rfl rfl rfl ?_
    (apply rap (s' := 1) (es := [[.int _ _]]) rfl rfl; (first | ((simp (disch := omega) only [↓app0, ↓appC, ↓updS, ↓updN, ↓hpS, ↓hpN]) <;> first | rfl | assumption) | assumption | rfl); rfl; rfl; (first | rfl | omega | (rw [List.length_map]; omega) | (rw [List.length_map, List.length_append, lenL_length]; omega) | (rw [List.length_map, outL_length]; omega)); rfl; rfl; exact (Nat.succ_ne_zero _); (first | rfl | (apply srcView rfl; (first | ((simp (disch := omega) only [↓app0, ↓appC, ↓updS, ↓updN, ↓hpS, ↓hpN]) <;> first | rfl | assumption) | assumption | rfl); (first | exact Nat.le_refl _ | omega); rfl)); (first | rfl | assumption | (focus (simp; done)) | (intro _ _; simp_all)); (first | omega | (focus (simp only [List.length_cons, List.length_nil]; omega)) | exact Nat.le_of_ble_eq_true rfl | ((show (_ + 1) * _ ≤ _); omega) | ((show _ + 1 ≤ _); omega) | ((show (_ + 4) * _ ≤ _); omega) | ((show _ + 4 ≤ _); omega)); (first | omega | (focus (simp only [List.length_cons, List.length_nil]; omega)) | exact Nat.le_of_ble_eq_true rfl | ((show (_ + 1) * _ ≤ _); omega) | ((show _ + 1 ≤ _); omega) | ((show (_ + 4) * _ ≤ _); omega) | ((show _ + 4 ≤ _); omega)); rfl; rfl; rfl)
    refine raV rfl rfl rfl rfl rfl ?_
    refine rNil ?_
    refine qBlock ?_
    refine qLoop ?_
    rw [tm64] at h3_3
    exact wlH (ih (L ++ [0], ln + 1, m + 1, m + 2, z + 1) ⟨by dsimp only; rw [List.length_append, hI.1]; rfl, by dsimp only; omega, by dsimp only; omega, by dsimp only; omega, by dsimp only; rw [hI.2.2.2.2.1, List.append_assoc, List.cons_append, List.replicate_succ'], by dsimp only; omega⟩ (by dsimp only; omega)) (by (repeat first | exact LE.nil _ | refine LE.unk _ _ ?_ | refine LE.eq _ _ _ rfl ?_)) (by dsimp only; (repeat first | exact lessH0 | (refine lessHc ?_ ?_; (first | (first | ((simp (disch := omega) only [↓app0, ↓appC, ↓updS, ↓updN, ↓hpS, ↓hpN]) <;> first | rfl | assumption) | assumption | rfl) | (first | (focus ((simp (disch := omega) only [↓app0, ↓appC, ↓updS, ↓updN, ↓hpS, ↓hpN]); exact congrArg (fun z => some (Blk.mk z 1 5)) e1)) | (focus ((simp (disch := omega) only [↓app0, ↓appC, ↓updS, ↓updN, ↓hpS, ↓hpN]); exact congrArg (fun z => some (Blk.mk z 1 5)) (List.map_append (f := bV) (l₁ := L) (l₂ := [0])).symm))))))) (Nat.le_refl _)
  · refine rNil ?_
    refine qSeq ?_
    refine wF rfl ?_
    refine wExit ?_
    refine qSeqX ?_
    refine qLoopX ?_
    refine qBlockX ?_
    refine qSeq ?_
    refine wSeq ?_
    refine wSeq ?_
    refine wRegion ?_
    refine raI rfl rfl rfl rfl rfl ?_
    refine rNil ?_
    refine qSeq ?_
    refine wBlock ?_
    refine wLoop ?_
    refine loopGo (fun (a : Int × Nat × Nat × Nat) => [.sl false nn (B.map bT), .unk, .unk, .view 0 0 8, .view a.2.2.1 0 a.2.1, .int .i64 a.1]) (fun (a : Int × Nat × Nat × Nat) => hp [(0, ⟨q0.L.map uV, 1, 146⟩), (a.2.2.1, ⟨(L ++ lenL (8 * ((B.map bT).length : Int)) (7 - a.1).toNat).map bV, 1, 5⟩)]) (fun (a : Int × Nat × Nat × Nat) => a.2.2.2) (fun (a : Int × Nat × Nat × Nat) => (-1 ≤ a.1 ∧ a.1 ≤ 7) ∧ (0 < a.2.2.1 ∧ a.2.2.1 < a.2.2.2) ∧ a.2.1 = ln + (7 - a.1).toNat) (fun (a : Int × Nat × Nat × Nat) => (a.1 + 1).toNat) (7, ln, id, m) ?_ ?_ ?_ ?_ ?_
    · exact ⟨by dsimp only; omega, by dsimp only; omega, rfl⟩
    · (repeat first | exact LE.nil _ | refine LE.unk _ _ ?_ | refine LE.eq _ _ _ rfl ?_)
    · dsimp only
      (repeat first | exact lessH0 | (refine lessHc ?_ ?_; (first | (first | ((simp (disch := omega) only [↓app0, ↓appC, ↓updS, ↓updN, ↓hpS, ↓hpN]) <;> first | rfl | assumption) | assumption | rfl) | (first | (focus ((simp (disch := omega) only [↓app0, ↓appC, ↓updS, ↓updN, ↓hpS, ↓hpN]); exact congrArg (fun z => some (Blk.mk (List.map bV z) 1 5)) (show L = L ++ lenL _ 0 by rw [lenL_zero, List.append_nil])))))))
    · exact Nat.le_refl _
    intro ⟨i, ln1, id1, m1⟩ hI ih
    dsimp only at hI ⊢
    have hQ := hI
    refine lStep ?_
    refine wSeq ?_
    refine wSeq ?_
    refine wRegion ?_
    refine rmI rfl rfl rfl rfl rfl ?_
    refine rge rfl rfl rfl rfl rfl rfl ?_ ?_ <;> intro h6_1
    · refine rNil ?_
      refine qSeq ?_
      refine wT rfl ?_
      refine wSkip ?_
      refine qSeq ?_
      refine wSeq ?_
      refine wBlock ?_
      refine wRegion ?_
      refine rmV rfl rfl rfl rfl rfl ?_
      refine rmL rfl rfl rfl rfl rfl ?_
      refine rll rfl rfl rfl rfl rfl rfl ?_
      refine rmulF rfl rfl rfl ?_ ?_ rfl rfl rfl ?_
      · (first | omega | assumption | decide | exact wrap_nn _ | (focus (simp; done)) | (focus (simp; omega)))
      · (first | omega | assumption | decide | exact wrap_nn _ | (focus (simp; done)) | (focus (simp; omega)))
      refine rmI rfl rfl rfl rfl rfl ?_
      refine rmulF rfl rfl rfl ?_ ?_ rfl rfl rfl ?_
      · (first | omega | assumption | decide | exact wrap_nn _ | (focus (simp; done)) | (focus (simp; omega)))
      · (first | omega | assumption | decide | exact wrap_nn _ | (focus (simp; done)) | (focus (simp; omega)))
      refine rcv rfl rfl rfl rfl rfl rfl rfl ?_
      refine rshr rfl rfl rfl ?_ rfl rfl rfl ?_
      · (first | omega | assumption | decide | exact wrap_nn _ | (focus (simp; done)) | (focus (simp; omega)))
      refine rcv rfl rfl rfl rfl rfl rfl rfl ?_
      refine rbs (es := [[.int _ _]]) rfl rfl rfl rfl (Nat.succ_ne_zero _) (Nat.le_of_ble_eq_true rfl) rfl rfl rfl rfl rfl ?_
      (apply rap (s' := 1) (es := [[.int _ _]]) rfl rfl; (first | ((simp (disch := omega) only [↓app0, ↓appC, ↓updS, ↓updN, ↓hpS, ↓hpN]) <;> first | rfl | assumption) | assumption | rfl); rfl; rfl; (first | rfl | omega | (rw [List.length_map]; omega) | (rw [List.length_map, List.length_append, lenL_length]; omega) | (rw [List.length_map, outL_length]; omega)); rfl; rfl; exact (Nat.succ_ne_zero _); (first | rfl | (apply srcView rfl; (first | ((simp (disch := omega) only [↓app0, ↓appC, ↓updS, ↓updN, ↓hpS, ↓hpN]) <;> first | rfl | assumption) | assumption | rfl); (first | exact Nat.le_refl _ | omega); rfl)); (first | rfl | assumption | (focus (simp; done)) | (intro _ _; simp_all)); (first | omega | (focus (simp only [List.length_cons, List.length_nil]; omega)) | exact Nat.le_of_ble_eq_true rfl | ((show (_ + 1) * _ ≤ _); omega) | ((show _ + 1 ≤ _); omega) | ((show (_ + 4) * _ ≤ _); omega) | ((show _ + 4 ≤ _); omega)); (first | omega | (focus (simp only [List.length_cons, List.length_nil]; omega)) | exact Nat.le_of_ble_eq_true rfl | ((show (_ + 1) * _ ≤ _); omega) | ((show _ + 1 ≤ _); omega) | ((show (_ + 4) * _ ≤ _); omega) | ((show _ + 4 ≤ _); omega)); rfl; rfl; rfl)
      refine raV rfl rfl rfl rfl rfl ?_
      refine rNil ?_
      refine qBlock ?_
      refine qSeq ?_
      refine wRegion ?_
      refine rmI rfl rfl rfl rfl rfl ?_
      refine rsubF rfl rfl rfl ?_ ?_ rfl rfl rfl ?_
      · (first | omega | assumption | decide | exact wrap_nn _ | (focus (simp; done)) | (focus (simp; omega)))
      · (first | omega | assumption | decide | exact wrap_nn _ | (focus (simp; done)) | (focus (simp; omega)))
      refine raI rfl rfl rfl rfl rfl ?_
      refine rNil ?_
      refine qLoop ?_
      have hk : (7 - (i - 1)).toNat = (7 - i).toNat + 1 := by omega
      have hi7 : 7 - (((7 - i).toNat : Nat) : Int) = i := by omega
      have e2 : (L ++ lenL (8 * ((B.map bT).length : Int)) (7 - i).toNat).map bV ++ [[.int .u8 (bt8 (8 * ((B.map bT).length : Int)) i)]] = (L ++ lenL (8 * ((B.map bT).length : Int)) (7 - (i - 1)).toNat).map bV := by
        rw [hk, lenL_succ, hi7, ← List.append_assoc, List.map_append (l₂ := [bt8 (8 * ((B.map bT).length : Int)) i])]; rfl
      exact wlH (ih (i - 1, ln1 + 1, m1 + 1, m1 + 2) ⟨by dsimp only; omega, by dsimp only; omega, by dsimp only; omega⟩ (by dsimp only; omega)) (by (repeat first | exact LE.nil _ | refine LE.unk _ _ ?_ | refine LE.eq _ _ _ rfl ?_)) (by dsimp only; (repeat first | exact lessH0 | (refine lessHc ?_ ?_; (first | (first | ((simp (disch := omega) only [↓app0, ↓appC, ↓updS, ↓updN, ↓hpS, ↓hpN]) <;> first | rfl | assumption) | assumption | rfl) | (first | (focus ((simp (disch := omega) only [↓app0, ↓appC, ↓updS, ↓updN, ↓hpS, ↓hpN]); exact congrArg (fun z => some (Blk.mk z 1 5)) e2))))))) (Nat.le_refl _)
    · refine rNil ?_
      refine qSeq ?_
      refine wF rfl ?_
      refine wExit ?_
      refine qSeqX ?_
      refine qLoopX ?_
      refine qBlockX ?_
      refine qSeq ?_
      refine wSeq ?_
      refine wRegion ?_
      refine rcl e117 rfl rfl rfl rfl rfl rfl ?_
      refine raL rfl rfl rfl rfl rfl ?_
      refine rNil ?_
      refine qSeq ?_
      refine wSeq ?_
      refine wSeq ?_
      refine wRegion ?_
      refine raI rfl rfl rfl rfl rfl ?_
      refine rNil ?_
      refine qSeq ?_
      refine wBlock ?_
      refine wLoop ?_
      refine loopGo (fun (a : Nat × Nat) => [.sl false nn (B.map bT), .unk, .unk, .view 0 0 8, .view id1 0 ln1, .unk, .sl true true (roundW.map fun x => [.int .u32 x]), .int .i64 a.1]) (fun (a : Nat × Nat) => hp [(0, ⟨(blks (L ++ lenL (8 * ((B.map bT).length : Int)) 8) (a.1 / 64)).L.map uV, 1, 146⟩), (id1, ⟨(L ++ lenL (8 * ((B.map bT).length : Int)) 8).map bV, 1, 5⟩)]) (fun (a : Nat × Nat) => a.2) (fun (a : Nat × Nat) => a.1 % 64 = 0 ∧ a.1 ≤ ln1 ∧ id1 < a.2) (fun (a : Nat × Nat) => ln1 - a.1) (0, m1) ?_ ?_ ?_ ?_ ?_
      · exact ⟨rfl, Nat.zero_le _, hQ.2.1.2⟩
      · (repeat first | exact LE.nil _ | refine LE.unk _ _ ?_ | refine LE.eq _ _ _ rfl ?_)
      · dsimp only
        (repeat first | exact lessH0 | (refine lessHc ?_ ?_; (first | (first | ((simp (disch := omega) only [↓app0, ↓appC, ↓updS, ↓updN, ↓hpS, ↓hpN]) <;> first | rfl | assumption) | assumption | rfl) | (first | (focus ((simp (disch := omega) only [↓app0, ↓appC, ↓updS, ↓updN, ↓hpS, ↓hpN]); exact congrArg (fun z => some (Blk.mk (List.map uV (W8.L z)) 1 146)) (show q0 = _ by rw [Nat.zero_div, blks_zero]))) | (focus ((simp (disch := omega) only [↓app0, ↓appC, ↓updS, ↓updN, ↓hpS, ↓hpN]); exact congrArg (fun z => some (Blk.mk (List.map bV (L ++ lenL _ z)) 1 5)) (show (7 - i).toNat = 8 by omega)))))))
      · exact Nat.le_refl _
      intro ⟨off, m2⟩ hI ih
      dsimp only at hI ⊢
      have hR := hI
      have h64 : ln1 % 64 = 0 := by rw [tm64] at h3_3; omega
      refine lStep ?_
      refine wSeq ?_
      refine wSeq ?_
      refine wRegion ?_
      refine rmI rfl rfl rfl rfl rfl ?_
      refine rmV rfl rfl rfl rfl rfl ?_
      refine rll rfl rfl rfl rfl rfl rfl ?_
      refine rlt rfl rfl rfl rfl rfl rfl ?_ ?_ <;> intro h11_3
      · refine rNil ?_
        refine qSeq ?_
        refine wT rfl ?_
        refine wSkip ?_
        refine qSeq ?_
        refine wSeq ?_
        refine wBlock ?_
        refine wRegion ?_
        refine rmV rfl rfl rfl rfl rfl ?_
        refine rmV rfl rfl rfl rfl rfl ?_
        refine rmI rfl rfl rfl rfl rfl ?_
        refine rmI rfl rfl rfl rfl rfl ?_
        refine raddF rfl rfl rfl ?_ ?_ rfl rfl rfl ?_
        · (first | omega | assumption | decide | exact wrap_nn _ | (focus (simp; done)) | (focus (simp; omega)))
        · (first | omega | assumption | decide | exact wrap_nn _ | (focus (simp; done)) | (focus (simp; omega)))
        (apply rslv rfl rfl rfl; (first | ((simp (disch := omega) only [↓app0, ↓appC, ↓updS, ↓updN, ↓hpS, ↓hpN]) <;> first | rfl | assumption) | assumption | rfl); rfl; rfl; rfl; (first | omega | assumption | decide | exact wrap_nn _ | (focus (simp; done)) | (focus (simp; omega))); (first | omega | assumption | decide | exact wrap_nn _ | (focus (simp; done)) | (focus (simp; omega))); (first | omega | assumption | decide | exact wrap_nn _ | (focus (simp; done)) | (focus (simp; omega))); rfl; rfl; rfl)
        refine rmL rfl rfl rfl rfl rfl ?_
        refine rop (e118 (blks (L ++ lenL (8 * ((B.map bT).length : Int)) 8) (off / 64)) (L ++ lenL (8 * ((B.map bT).length : Int)) 8) true true (hb := 0) (ab := id1) (off := off) ?_ ?_ ?_ ?_ ?_ ?_) rfl rfl (by show [V.view 0 0 8, V.view id1 (0 + ((off : Nat) : Int).toNat) ((((off : Nat) : Int) + 64).toNat - ((off : Nat) : Int).toNat), .sl true true (roundW.map uT)] = _; rw [Nat.zero_add, show (((off : Nat) : Int) + 64).toNat - ((off : Nat) : Int).toNat = 64 by omega, Int.toNat_natCast]) rfl rfl rfl ?_
        · (first | omega | (rw [List.length_append, lenL_length]; omega) | (first | ((simp (disch := omega) only [↓app0, ↓appC, ↓updS, ↓updN, ↓hpS, ↓hpN]) <;> first | rfl | assumption) | assumption | rfl))
        · (first | omega | (rw [List.length_append, lenL_length]; omega) | (first | ((simp (disch := omega) only [↓app0, ↓appC, ↓updS, ↓updN, ↓hpS, ↓hpN]) <;> first | rfl | assumption) | assumption | rfl))
        · (first | omega | (rw [List.length_append, lenL_length]; omega) | (first | ((simp (disch := omega) only [↓app0, ↓appC, ↓updS, ↓updN, ↓hpS, ↓hpN]) <;> first | rfl | assumption) | assumption | rfl))
        · (first | omega | (rw [List.length_append, lenL_length]; omega) | (first | ((simp (disch := omega) only [↓app0, ↓appC, ↓updS, ↓updN, ↓hpS, ↓hpN]) <;> first | rfl | assumption) | assumption | rfl))
        · (first | omega | (rw [List.length_append, lenL_length]; omega) | (first | ((simp (disch := omega) only [↓app0, ↓appC, ↓updS, ↓updN, ↓hpS, ↓hpN]) <;> first | rfl | assumption) | assumption | rfl))
        · (first | omega | (rw [List.length_append, lenL_length]; omega) | (first | ((simp (disch := omega) only [↓app0, ↓appC, ↓updS, ↓updN, ↓hpS, ↓hpN]) <;> first | rfl | assumption) | assumption | rfl))
        refine rNil ?_
        refine qBlock ?_
        refine qSeq ?_
        refine wRegion ?_
        refine rmI rfl rfl rfl rfl rfl ?_
        refine raddF rfl rfl rfl ?_ ?_ rfl rfl rfl ?_
        · (first | omega | assumption | decide | exact wrap_nn _ | (focus (simp; done)) | (focus (simp; omega)))
        · (first | omega | assumption | decide | exact wrap_nn _ | (focus (simp; done)) | (focus (simp; omega)))
        refine raI rfl rfl rfl rfl rfl ?_
        refine rNil ?_
        refine qLoop ?_
        have e3 : blk8 (blks (L ++ lenL (8 * ((B.map bT).length : Int)) 8) (off / 64)) (((L ++ lenL (8 * ((B.map bT).length : Int)) 8).drop off).take 64) = blks (L ++ lenL (8 * ((B.map bT).length : Int)) 8) ((off + 64) / 64) := by
          rw [show (off + 64) / 64 = off / 64 + 1 by omega, blks_succ, show 64 * (off / 64) = off by omega]
        exact wlH (ih (off + 64, m2 + 3 + 64) ⟨by dsimp only; omega, by dsimp only; omega, by dsimp only; omega⟩ (by dsimp only; omega)) (by (repeat first | exact LE.nil _ | refine LE.unk _ _ ?_ | refine LE.eq _ _ _ rfl ?_)) (by dsimp only; (repeat first | exact lessH0 | (refine lessHc ?_ ?_; (first | (first | ((simp (disch := omega) only [↓app0, ↓appC, ↓updS, ↓updN, ↓hpS, ↓hpN]) <;> first | rfl | assumption) | assumption | rfl) | (first | (focus ((simp (disch := omega) only [↓app0, ↓appC, ↓updS, ↓updN, ↓hpS, ↓hpN]); exact congrArg (fun z => some (Blk.mk (List.map uV (W8.L z)) 1 146)) e3))))))) (Nat.le_refl _)
      · refine rNil ?_
        refine qSeq ?_
        refine wF rfl ?_
        refine wExit ?_
        refine qSeqX ?_
        refine qLoopX ?_
        refine qBlockX ?_
        refine qSeq ?_
        refine wSeq ?_
        refine wRegion ?_
        refine rbs (es := []) rfl rfl rfl rfl (Nat.succ_ne_zero _) (Nat.le_of_ble_eq_true rfl) rfl rfl rfl rfl rfl ?_
        refine raV rfl rfl rfl rfl rfl ?_
        refine rNil ?_
        refine qSeq ?_
        refine wSeq ?_
        refine wSeq ?_
        refine wRegion ?_
        refine raI rfl rfl rfl rfl rfl ?_
        refine rNil ?_
        refine qSeq ?_
        refine wBlock ?_
        refine wLoop ?_
        refine loopGo (fun (a : Nat × Nat × Nat) => [.unk, .unk, .unk, .view 0 0 8, .unk, .unk, .unk, .unk, .view a.2.1 0 (4 * a.1), .int .i64 a.1]) (fun (a : Nat × Nat × Nat) => hp [(0, ⟨(blks (L ++ lenL (8 * ((B.map bT).length : Int)) 8) (off / 64)).L.map uV, 1, 146⟩), (a.2.1, ⟨(outL (blks (L ++ lenL (8 * ((B.map bT).length : Int)) 8) (off / 64)) a.1).map bV, 1, 5⟩)]) (fun (a : Nat × Nat × Nat) => a.2.2) (fun (a : Nat × Nat × Nat) => a.1 ≤ 8 ∧ 0 < a.2.1 ∧ a.2.1 < a.2.2) (fun (a : Nat × Nat × Nat) => 8 - a.1) (0, m2, m2 + 1) ?_ ?_ ?_ ?_ ?_
        · exact ⟨Nat.zero_le _, by dsimp only; omega, by dsimp only; omega⟩
        · (repeat first | exact LE.nil _ | refine LE.unk _ _ ?_ | refine LE.eq _ _ _ rfl ?_)
        · dsimp only
          (repeat first | exact lessH0 | (refine lessHc ?_ ?_; (first | (first | ((simp (disch := omega) only [↓app0, ↓appC, ↓updS, ↓updN, ↓hpS, ↓hpN]) <;> first | rfl | assumption) | assumption | rfl) | (first | (focus ((simp (disch := omega) only [↓app0, ↓appC, ↓updS, ↓updN, ↓hpS, ↓hpN]); exact congrArg (fun z => some (Blk.mk (List.map bV z) 1 5)) (show [] = outL _ 0 by rw [outL_zero])))))))
        · exact Nat.le_refl _
        intro ⟨i9, ob, m3⟩ hI ih
        dsimp only at hI ⊢
        refine lStep ?_
        refine wSeq ?_
        refine wSeq ?_
        refine wRegion ?_
        refine rmI rfl rfl rfl rfl rfl ?_
        refine rlt rfl rfl rfl rfl rfl rfl ?_ ?_ <;> intro h16_1
        · refine rNil ?_
          refine qSeq ?_
          refine wT rfl ?_
          refine wSkip ?_
          refine qSeq ?_
          refine wSeq ?_
          refine wBlock ?_
          refine wDraw [0, 0, 0, 6, 14, 30, 62, 0, 0, 384, 896, 1920, 3968, 0, 0, 24576, 57344, 122880, 253952, 0, 0, 1572864, 3670016, 7864320, 16777214, 33554431, 67108863] rfl (by decide +kernel) ?_
          refine dmV rfl rfl rfl rfl rfl ?_
          refine dmV rfl rfl rfl rfl rfl ?_
          refine dmI rfl rfl rfl rfl rfl ?_
          (apply dixv rfl rfl rfl rfl; (first | ((simp (disch := omega) only [↓app0, ↓appC, ↓updS, ↓updN, ↓hpS, ↓hpN]) <;> first | rfl | assumption) | assumption | rfl); rfl; (first | omega | assumption | decide | exact wrap_nn _ | (focus (simp; done)) | (focus (simp; omega))); (first | omega | assumption | decide | exact wrap_nn _ | (focus (simp; done)) | (focus (simp; omega))); rfl; rfl; rfl)
          (apply dlc (v := .int .u32 _) rfl rfl; (first | ((simp (disch := omega) only [↓app0, ↓appC, ↓updS, ↓updN, ↓hpS, ↓hpN]) <;> first | rfl | assumption) | assumption | rfl); exact mapGet uV 0 (show _ < 8 by omega); rfl; rfl; rfl; rfl; rfl)
          refine dshr rfl rfl rfl ?_ rfl rfl rfl ?_
          · (first | omega | assumption | decide | exact wrap_nn _ | (focus (simp; done)) | (focus (simp; omega)))
          refine dcv rfl rfl rfl rfl rfl rfl rfl ?_
          refine dmV rfl rfl rfl rfl rfl ?_
          refine dmI rfl rfl rfl rfl rfl ?_
          (apply dixv rfl rfl rfl rfl; (first | ((simp (disch := omega) only [↓app0, ↓appC, ↓updS, ↓updN, ↓hpS, ↓hpN]) <;> first | rfl | assumption) | assumption | rfl); rfl; (first | omega | assumption | decide | exact wrap_nn _ | (focus (simp; done)) | (focus (simp; omega))); (first | omega | assumption | decide | exact wrap_nn _ | (focus (simp; done)) | (focus (simp; omega))); rfl; rfl; rfl)
          (apply dlc (v := .int .u32 _) rfl rfl; (first | ((simp (disch := omega) only [↓app0, ↓appC, ↓updS, ↓updN, ↓hpS, ↓hpN]) <;> first | rfl | assumption) | assumption | rfl); exact mapGet uV 0 (show _ < 8 by omega); rfl; rfl; rfl; rfl; rfl)
          refine dshr rfl rfl rfl ?_ rfl rfl rfl ?_
          · (first | omega | assumption | decide | exact wrap_nn _ | (focus (simp; done)) | (focus (simp; omega)))
          refine dcv rfl rfl rfl rfl rfl rfl rfl ?_
          refine dmV rfl rfl rfl rfl rfl ?_
          refine dmI rfl rfl rfl rfl rfl ?_
          (apply dixv rfl rfl rfl rfl; (first | ((simp (disch := omega) only [↓app0, ↓appC, ↓updS, ↓updN, ↓hpS, ↓hpN]) <;> first | rfl | assumption) | assumption | rfl); rfl; (first | omega | assumption | decide | exact wrap_nn _ | (focus (simp; done)) | (focus (simp; omega))); (first | omega | assumption | decide | exact wrap_nn _ | (focus (simp; done)) | (focus (simp; omega))); rfl; rfl; rfl)
          (apply dlc (v := .int .u32 _) rfl rfl; (first | ((simp (disch := omega) only [↓app0, ↓appC, ↓updS, ↓updN, ↓hpS, ↓hpN]) <;> first | rfl | assumption) | assumption | rfl); exact mapGet uV 0 (show _ < 8 by omega); rfl; rfl; rfl; rfl; rfl)
          refine dshr rfl rfl rfl ?_ rfl rfl rfl ?_
          · (first | omega | assumption | decide | exact wrap_nn _ | (focus (simp; done)) | (focus (simp; omega)))
          refine dcv rfl rfl rfl rfl rfl rfl rfl ?_
          refine dmV rfl rfl rfl rfl rfl ?_
          refine dmI rfl rfl rfl rfl rfl ?_
          (apply dixv rfl rfl rfl rfl; (first | ((simp (disch := omega) only [↓app0, ↓appC, ↓updS, ↓updN, ↓hpS, ↓hpN]) <;> first | rfl | assumption) | assumption | rfl); rfl; (first | omega | assumption | decide | exact wrap_nn _ | (focus (simp; done)) | (focus (simp; omega))); (first | omega | assumption | decide | exact wrap_nn _ | (focus (simp; done)) | (focus (simp; omega))); rfl; rfl; rfl)
          (apply dlc (v := .int .u32 _) rfl rfl; (first | ((simp (disch := omega) only [↓app0, ↓appC, ↓updS, ↓updN, ↓hpS, ↓hpN]) <;> first | rfl | assumption) | assumption | rfl); exact mapGet uV 0 (show _ < 8 by omega); rfl; rfl; rfl; rfl; rfl)
          refine dcv rfl rfl rfl rfl rfl rfl rfl ?_
          refine dbs (es := [[.int _ _], [.int _ _], [.int _ _], [.int _ _]]) rfl rfl rfl rfl (Nat.succ_ne_zero _) (Nat.le_of_ble_eq_true rfl) rfl rfl rfl rfl rfl ?_
          (apply dap (s' := 1) (es := [[.int _ _], [.int _ _], [.int _ _], [.int _ _]]) rfl rfl; (first | ((simp (disch := omega) only [↓app0, ↓appC, ↓updS, ↓updN, ↓hpS, ↓hpN]) <;> first | rfl | assumption) | assumption | rfl); rfl; rfl; (first | rfl | omega | (rw [List.length_map]; omega) | (rw [List.length_map, List.length_append, lenL_length]; omega) | (rw [List.length_map, outL_length]; omega)); rfl; rfl; exact (Nat.succ_ne_zero _); (first | rfl | (apply srcView rfl; (first | ((simp (disch := omega) only [↓app0, ↓appC, ↓updS, ↓updN, ↓hpS, ↓hpN]) <;> first | rfl | assumption) | assumption | rfl); (first | exact Nat.le_refl _ | omega); rfl)); (first | rfl | assumption | (focus (simp; done)) | (intro _ _; simp_all)); (first | omega | (focus (simp only [List.length_cons, List.length_nil]; omega)) | exact Nat.le_of_ble_eq_true rfl | ((show (_ + 1) * _ ≤ _); omega) | ((show _ + 1 ≤ _); omega) | ((show (_ + 4) * _ ≤ _); omega) | ((show _ + 4 ≤ _); omega)); (first | omega | (focus (simp only [List.length_cons, List.length_nil]; omega)) | exact Nat.le_of_ble_eq_true rfl | ((show (_ + 1) * _ ≤ _); omega) | ((show _ + 1 ≤ _); omega) | ((show (_ + 4) * _ ≤ _); omega) | ((show _ + 4 ≤ _); omega)); rfl; rfl; rfl)
          refine daV rfl rfl rfl rfl rfl ?_
          refine dNilR 27 [0, 3, 3, 0, 1, 1, 0, 0, 0, 0, 1, 1, 0, 0, 0, 0, 1, 1, 0, 0, 0, 0, 1, 1, 0, 0, 0] [] rfl rfl (by decide +kernel) trivial ?_
          refine qBlock ?_
          refine qSeq ?_
          refine wRegion ?_
          refine rmI rfl rfl rfl rfl rfl ?_
          refine raddF rfl rfl rfl ?_ ?_ rfl rfl rfl ?_
          · (first | omega | assumption | decide | exact wrap_nn _ | (focus (simp; done)) | (focus (simp; omega)))
          · (first | omega | assumption | decide | exact wrap_nn _ | (focus (simp; done)) | (focus (simp; omega)))
          refine raI rfl rfl rfl rfl rfl ?_
          refine rNil ?_
          refine qLoop ?_
          have e4 : (outL (blks (L ++ lenL (8 * ((B.map bT).length : Int)) 8) (off / 64)) i9).map bV ++ (ws4 ((blks (L ++ lenL (8 * ((B.map bT).length : Int)) 8) (off / 64)).L.getD (0 + ((i9 : Nat) : Int).toNat) 0)).map bV = (outL (blks (L ++ lenL (8 * ((B.map bT).length : Int)) 8) (off / 64)) (i9 + 1)).map bV := by
            rw [outL_succ, List.map_append, Nat.zero_add, Int.toNat_natCast]
          exact wlH (ih (i9 + 1, m3 + 1, m3 + 2) ⟨by dsimp only; omega, by dsimp only; omega, by dsimp only; omega⟩ (by dsimp only; omega)) (by (repeat first | exact LE.nil _ | refine LE.unk _ _ ?_ | refine LE.eq _ _ _ rfl ?_)) (by dsimp only; (repeat first | exact lessH0 | (refine lessHc ?_ ?_; (first | (first | ((simp (disch := omega) only [↓app0, ↓appC, ↓updS, ↓updN, ↓hpS, ↓hpN]) <;> first | rfl | assumption) | assumption | rfl) | (first | (focus ((simp (disch := omega) only [↓app0, ↓appC, ↓updS, ↓updN, ↓hpS, ↓hpN]); exact congrArg (fun z => some (Blk.mk z 1 5)) e4))))))) (Nat.le_refl _)
        · refine rNil ?_
          refine qSeq ?_
          refine wF rfl ?_
          refine wExit ?_
          refine qSeqX ?_
          refine qLoopX ?_
          refine qBlockX ?_
          refine qSeq ?_
          refine wSeq ?_
          refine wRegion ?_
          refine rmV rfl rfl rfl rfl rfl ?_
          (apply rsg rfl rfl rfl rfl; (apply srcView rfl; (first | ((simp (disch := omega) only [↓app0, ↓appC, ↓updS, ↓updN, ↓hpS, ↓hpN]) <;> first | rfl | assumption) | assumption | rfl); (rw [List.length_map, outL_length]; omega); rfl); (intro s e; cases e); exact takeAll (by rw [outL_length]); rfl; rfl; rfl)
          refine raS rfl rfl rfl rfl rfl ?_
          refine rNil ?_
          refine qSeq ?_
          refine wRet ?_
          have hs : strOf (outL (blks (L ++ lenL (8 * ((B.map bT).length : Int)) 8) (off / 64)) i9) = hashB B := by
            rw [tm64] at h3_3
            have hz : L = padB B := by rw [hP.2.2.2.2.1]; unfold padB; rw [show z = (120 - (B.length + 1) % 64) % 64 by omega]
            have hF : (L ++ lenL (8 * ((B.map bT).length : Int)) 8) = shaB B := by unfold shaB; rw [hz, hl1]
            have hk : off / 64 = (shaB B).length / 64 := by rw [← hF, List.length_append, lenL_length]; omega
            rw [show i9 = 8 by omega, hk, hF]; rfl
          rw [← hs]; exact fin rfl rfl
end Go.Proofs.YtcafccndgpopkaaDoor
