import Derived.Test.YtcafccndgpopkaaDoorS1
namespace Go.Proofs.YtcafccndgpopkaaDoor
open Go.V
set_option linter.unusedVariables false
set_option linter.unusedSimpArgs false
set_option maxRecDepth 20000
set_option maxHeartbeats 4000000

def sh8 (y : Int) : Int := y.fdiv (2 ^ (min (8 : Int).toNat IntKind.i64.bits))
/-- A number's bytes, the higher ones first. -/
def numL (x : Int) : Nat → List Int
  | 0 => []
  | k + 1 => numL (sh8 x) k ++ [IntKind.u8.wrap x]
theorem numL_succ (x : Int) (k : Nat) : numL x (k + 1) = numL (sh8 x) k ++ [IntKind.u8.wrap x] := rfl
theorem numL_length (m : Nat) : ∀ x, (numL x m).length = m := by
  induction m with
  | zero => intro x; rfl
  | succ k ih => intro x; rw [numL_succ, List.length_append, ih]; rfl
theorem setRep (k : Nat) (T : List Int) (v : Int) : (List.replicate (k + 1) 0 ++ T).set k v = List.replicate k 0 ++ v :: T := by
  rw [List.replicate_succ', List.append_assoc, List.set_append_right _ _ (by simp)]
  simp
theorem e37 (x : Int) (m : Nat) (hm : m ≤ 8) : Pure En 94 [.one (.int .i64 x), .one (.int .i64 m)] [.one (.str (strOf (numL x m)))] := by
  refine Pure.of_wp Tryd.func94 rfl (Nat.le_of_ble_eq_true rfl) ?_
  refine wSeq ?_
  refine wRegion ?_
  refine raS rfl rfl rfl rfl rfl ?_
  refine rNil ?_
  refine qSeq ?_
  refine wSeq ?_
  refine wRegion ?_
  refine rmI rfl rfl rfl rfl rfl ?_
  refine rmk (s' := 1) rfl rfl rfl rfl rfl rfl (Nat.succ_ne_zero _) ?_ ?_ rfl rfl rfl ?_
  · (first | omega | assumption | (focus (simp; omega)))
  · (first | omega | assumption | (focus (simp; omega)))
  refine raV rfl rfl rfl rfl rfl ?_
  refine rNil ?_
  refine qSeq ?_
  refine wSeq ?_
  refine wSeq ?_
  refine wRegion ?_
  refine rmI rfl rfl rfl rfl rfl ?_
  refine rsubF rfl rfl rfl ?_ ?_ rfl rfl rfl ?_
  · (first | omega | assumption | (focus (simp; omega)))
  · (first | omega | assumption | (focus (simp; omega)))
  refine raI rfl rfl rfl rfl rfl ?_
  refine rNil ?_
  refine qSeq ?_
  refine wBlock ?_
  refine wLoop ?_
  refine loopGo (fun (a : Int × Int × List Int × List Int) => [.int .i64 a.2.1, .int .i64 m, .unk, .unk, .unk, .view 0 0 m, .int .i64 (a.1 - 1)]) (fun (a : Int × Int × List Int × List Int) => hp [(0, ⟨a.2.2.1.map bV, 1, 5⟩)]) (fun (a : Int × Int × List Int × List Int) => 1) (fun (a : Int × Int × List Int × List Int) => a.2.2.1.length = m ∧ a.1 ≤ m ∧ numL x m = numL a.2.1 a.1.toNat ++ a.2.2.2 ∧ a.2.2.1 = List.replicate a.1.toNat 0 ++ a.2.2.2) (fun (a : Int × Int × List Int × List Int) => a.1.toNat) ((m : Int), x, List.replicate m 0, []) ?_ ?_ ?_ ?_ ?_
  · exact ⟨List.length_replicate .., Int.le_refl _, (List.append_nil _).symm, (List.append_nil _).symm⟩
  · (repeat first | exact LE.nil _ | refine LE.unk _ _ ?_ | refine LE.eq _ _ _ rfl ?_)
  · (repeat first | exact lessH0 | (refine lessHc ?_ ?_; (first | (first | ((simp (disch := omega) only [↓app0, ↓appC, ↓updS, ↓updN, ↓hpS, ↓hpN]) <;> first | rfl | assumption) | assumption | rfl) | (dsimp only; rw [List.map_replicate]; rfl) | (dsimp only; rw [List.map_set, Nat.zero_add]; rfl))))
  · exact Nat.le_refl _
  intro ⟨i, y, L, T⟩ hI ih
  dsimp only at hI ⊢
  refine lStep ?_
  refine wSeq ?_
  refine wSeq ?_
  refine wRegion ?_
  refine rmI rfl rfl rfl rfl rfl ?_
  refine rge rfl rfl rfl rfl rfl rfl ?_ ?_ <;> intro h3_1
  · refine rNil ?_
    refine qSeq ?_
    refine wT rfl ?_
    refine wSkip ?_
    refine qSeq ?_
    refine wSeq ?_
    refine wBlock ?_
    refine wSeq ?_
    refine wRegion ?_
    refine rmV rfl rfl rfl rfl rfl ?_
    refine rmI rfl rfl rfl rfl rfl ?_
    refine rmI rfl rfl rfl rfl rfl ?_
    refine rcv rfl rfl rfl rfl rfl rfl rfl ?_
    (apply rixv rfl rfl rfl rfl; (first | ((simp (disch := omega) only [↓app0, ↓appC, ↓updS, ↓updN, ↓hpS, ↓hpN]) <;> first | rfl | assumption) | assumption | rfl); rfl; (first | omega | assumption | (focus (simp; omega))); (first | omega | assumption | (focus (simp; omega))); rfl; rfl; rfl)
    (apply rst rfl rfl rfl; rfl; exact mapGet bV 0 (show 0 + (i - 1 : Int).toNat < L.length by omega); rfl; rfl; rfl; rfl; (exact Nat.le_of_ble_eq_true rfl); rfl; rfl; rfl)
    refine rNil ?_
    refine qSeq ?_
    refine wRegion ?_
    refine rmI rfl rfl rfl rfl rfl ?_
    refine rshr rfl rfl rfl ?_ rfl rfl rfl ?_
    · (first | omega | assumption | (focus (simp; omega)))
    refine raI rfl rfl rfl rfl rfl ?_
    refine rNil ?_
    refine qBlock ?_
    refine qSeq ?_
    refine wRegion ?_
    refine rmI rfl rfl rfl rfl rfl ?_
    refine rsubF rfl rfl rfl ?_ ?_ rfl rfl rfl ?_
    · (first | omega | assumption | (focus (simp; omega)))
    · (first | omega | assumption | (focus (simp; omega)))
    refine raI rfl rfl rfl rfl rfl ?_
    refine rNil ?_
    refine qLoop ?_
    obtain ⟨k, hk, hk2⟩ : ∃ k : Nat, i.toNat = k + 1 ∧ (i - 1).toNat = k := ⟨(i - 1).toNat, by omega, rfl⟩
    exact wlH (ih (i - 1, sh8 y, L.set (i - 1 : Int).toNat (IntKind.u8.wrap y), IntKind.u8.wrap y :: T) ⟨by dsimp only; rw [List.length_set]; exact hI.1, by dsimp only; omega, by dsimp only; rw [hI.2.2.1, hk, hk2, numL_succ, List.append_assoc]; rfl, by dsimp only; rw [hI.2.2.2, hk, hk2, setRep]⟩ (by dsimp only; omega)) (by (repeat first | exact LE.nil _ | refine LE.unk _ _ ?_ | refine LE.eq _ _ _ rfl ?_)) (by (repeat first | exact lessH0 | (refine lessHc ?_ ?_; (first | (first | ((simp (disch := omega) only [↓app0, ↓appC, ↓updS, ↓updN, ↓hpS, ↓hpN]) <;> first | rfl | assumption) | assumption | rfl) | (dsimp only; rw [List.map_replicate]; rfl) | (dsimp only; rw [List.map_set, Nat.zero_add]; rfl))))) (Nat.le_refl _)
  · refine rNil ?_
    refine qSeq ?_
    refine wF rfl ?_
    refine wExit ?_
    refine qSeqX ?_
    refine qLoopX ?_
    refine qBlockX ?_
    refine qSeq ?_
    refine wSeq ?_
    refine wRegion ?_
    refine rmV rfl rfl rfl rfl rfl ?_
    (apply rsg rfl rfl rfl rfl; (apply srcView rfl; (first | ((simp (disch := omega) only [↓app0, ↓appC, ↓updS, ↓updN, ↓hpS, ↓hpN]) <;> first | rfl | assumption) | assumption | rfl); (first | exact Nat.le_refl _ | omega | (simp; omega)); rfl); (intro s e; cases e); exact takeAll hI.1; rfl; rfl; rfl)
    refine raS rfl rfl rfl rfl rfl ?_
    refine rNil ?_
    refine qSeq ?_
    refine wRet ?_
    rw [show numL x m = L by rw [hI.2.2.1, hI.2.2.2, show i.toNat = 0 by omega]; rfl]; exact fin rfl rfl

def q0 : W8 := ⟨1779033703, 3144134277, 1013904242, 2773480762, 1359893119, 2600822924, 528734635, 1541459225⟩
def blks (F : List Int) : Nat → W8
  | 0 => q0
  | k + 1 => blk8 (blks F k) ((F.drop (64 * k)).take 64)
theorem blks_zero (F : List Int) : blks F 0 = q0 := rfl
theorem blks_succ (F : List Int) (k : Nat) : blks F (k + 1) = blk8 (blks F k) ((F.drop (64 * k)).take 64) := rfl
def outS (q : W8) : Nat → ByteArray
  | 0 => ⟨#[]⟩
  | i + 1 => outS q i ++ strOf (numL (IntKind.i64.wrap (q.L.getD i 0)) 4)
theorem outS_zero (q : W8) : outS q 0 = ⟨#[]⟩ := rfl
theorem outS_succ (q : W8) (i : Nat) : outS q (i + 1) = outS q i ++ strOf (numL (IntKind.i64.wrap (q.L.getD i 0)) 4) := rfl
def padL (t : ByteArray) : List Int := byt t ++ 128 :: List.replicate ((120 - (t.size + 1) % 64) % 64) 0
def shaF (t : ByteArray) : List Int := padL t ++ byt (strOf (numL (8 * (t.size : Int)) 8))
/-- SHA-256 of a text. -/
def sha (t : ByteArray) : ByteArray := outS (blks (shaF t) ((shaF t).length / 64)) 8
attribute [irreducible] blks outS numL
attribute [local irreducible] blk8
theorem e45 (t : ByteArray) (ht : t.size ≤ 1000000) : Pure En 106 [.one (.str t)] [.one (.str (sha t))] := by
  have hn8 : (strOf (numL (8 * (t.size : Int)) 8)).size = 8 := by rw [strOf_size, numL_length]
  refine Pure.of_wp Tryd.func106 rfl (Nat.le_of_ble_eq_true rfl) ?_
  refine wSeq ?_
  refine wRegion ?_
  refine raS rfl rfl rfl rfl rfl ?_
  refine rNil ?_
  refine qSeq ?_
  refine wSeq ?_
  refine wRegion ?_
  refine rmS rfl rfl rfl rfl rfl ?_
  refine rbt rfl rfl rfl rfl rfl rfl rfl rfl ?_
  refine rbs (es := [[.int _ _]]) rfl rfl rfl rfl (Nat.succ_ne_zero _) (Nat.le_of_ble_eq_true rfl) rfl rfl rfl rfl rfl ?_
  (apply rap (s' := 1) (es := [[.int _ _]]) rfl rfl; (first | ((simp (disch := omega) only [↓app0, ↓appC, ↓updS, ↓updN, ↓hpS, ↓hpN]) <;> first | rfl | assumption) | assumption | rfl); rfl; rfl; (first | rfl | omega | (rw [List.length_map]; omega) | (rw [rowsLen]; exact Nat.zero_add _)); rfl; rfl; exact (Nat.succ_ne_zero _); (first | rfl | (apply srcView rfl; (first | rfl | ((simp (disch := omega) only [app, upd, hp, if_pos, if_neg]); rfl)); (first | exact Nat.le_refl _ | omega); rfl)); (first | rfl | assumption | (focus (simp; done)) | (intro _ _; simp_all)); (first | omega | (focus (simp only [List.length_cons, List.length_nil]; omega)) | (first | (show (_ + 1) * _ ≤ _; omega) | (show _ + 1 ≤ _; omega) | (rw [rowsLen]; omega))); (first | omega | (focus (simp only [List.length_cons, List.length_nil]; omega)) | (first | (show (_ + 1) * _ ≤ _; omega) | (show _ + 1 ≤ _; omega) | (rw [rowsLen]; omega))); rfl; rfl; rfl)
  refine raV rfl rfl rfl rfl rfl ?_
  refine rNil ?_
  refine qSeq ?_
  refine wSeq ?_
  refine wBlock ?_
  refine wLoop ?_
  refine loopGo (fun (a : List Int × Nat × Nat × Nat × Nat) => [.str t, .unk, .unk, .view a.2.2.1 0 a.2.1]) (fun (a : List Int × Nat × Nat × Nat × Nat) => hp [(a.2.2.1, ⟨a.1.map bV, 1, 5⟩)]) (fun (a : List Int × Nat × Nat × Nat × Nat) => a.2.2.2.1) (fun (a : List Int × Nat × Nat × Nat × Nat) => a.1.length = a.2.1 ∧ a.2.2.1 < a.2.2.2.1 ∧ t.size < a.2.1 ∧ a.2.1 + (120 - a.2.1 % 64) % 64 ≤ t.size + 100 ∧ a.1 = byt t ++ 128 :: List.replicate a.2.2.2.2 0 ∧ a.2.2.2.2 + (120 - a.2.1 % 64) % 64 = (120 - (t.size + 1) % 64) % 64) (fun (a : List Int × Nat × Nat × Nat × Nat) => (120 - a.2.1 % 64) % 64) (byt t ++ [128], t.size + 1, 2, 3, 0) ?_ ?_ ?_ ?_ ?_
  · exact ⟨by dsimp only; rw [List.length_append, byt_length]; rfl, by dsimp only; omega, by dsimp only; omega, by dsimp only; omega, rfl, by dsimp only; omega⟩
  · (repeat first | exact LE.nil _ | refine LE.unk _ _ ?_ | refine LE.eq _ _ _ rfl ?_)
  · (repeat first | exact lessH0 | (refine lessHc ?_ ?_; (first | (first | ((simp (disch := omega) only [↓app0, ↓appC, ↓updS, ↓updN, ↓hpS, ↓hpN]) <;> first | rfl | assumption) | assumption | rfl) | (dsimp only; rw [List.map_append, ← bytRows]; rfl) | ((simp (disch := omega) only [app, upd, hp, if_pos, if_neg]); rw [List.map_append]; rfl))))
  · exact Nat.le_refl _
  intro ⟨L, ln, id, m, z⟩ hI ih
  dsimp only at hI ⊢
  have hP := hI
  refine lStep ?_
  refine wSeq ?_
  refine wSeq ?_
  refine wRegion ?_
  refine rmV rfl rfl rfl rfl rfl ?_
  refine rll rfl rfl rfl rfl rfl rfl ?_
  refine rrem rfl rfl rfl ?_ rfl rfl rfl ?_
  · (first | omega | assumption | (focus (simp only [strOf_size, numL_length]; omega)) | (focus (simp; omega)))
  refine rne rfl rfl rfl rfl rfl rfl ?_ ?_ <;> intro h2_3
  · refine rNil ?_
    refine qSeq ?_
    refine wT rfl ?_
    refine wSkip ?_
    refine qSeq ?_
    refine wBlock ?_
    refine wRegion ?_
    refine rmV rfl rfl rfl rfl rfl ?_
    refine rbs (es := [[.int _ _]]) rfl rfl rfl rfl (Nat.succ_ne_zero _) (Nat.le_of_ble_eq_true rfl) rfl rfl rfl rfl rfl ?_
    (apply rap (s' := 1) (es := [[.int _ _]]) rfl rfl; (first | ((simp (disch := omega) only [↓app0, ↓appC, ↓updS, ↓updN, ↓hpS, ↓hpN]) <;> first | rfl | assumption) | assumption | rfl); rfl; rfl; (first | rfl | omega | (rw [List.length_map]; omega) | (rw [rowsLen]; exact Nat.zero_add _)); rfl; rfl; exact (Nat.succ_ne_zero _); (first | rfl | (apply srcView rfl; (first | rfl | ((simp (disch := omega) only [app, upd, hp, if_pos, if_neg]); rfl)); (first | exact Nat.le_refl _ | omega); rfl)); (first | rfl | assumption | (focus (simp; done)) | (intro _ _; simp_all)); (first | omega | (focus (simp only [List.length_cons, List.length_nil]; omega)) | (first | (show (_ + 1) * _ ≤ _; omega) | (show _ + 1 ≤ _; omega) | (rw [rowsLen]; omega))); (first | omega | (focus (simp only [List.length_cons, List.length_nil]; omega)) | (first | (show (_ + 1) * _ ≤ _; omega) | (show _ + 1 ≤ _; omega) | (rw [rowsLen]; omega))); rfl; rfl; rfl)
    refine raV rfl rfl rfl rfl rfl ?_
    refine rNil ?_
    refine qBlock ?_
    refine qLoop ?_
    rw [tm64] at h2_3
    exact wlH (ih (L ++ [0], ln + 1, m + 1, m + 2, z + 1) ⟨by dsimp only; rw [List.length_append, hI.1]; rfl, by dsimp only; omega, by dsimp only; omega, by dsimp only; omega, by dsimp only; rw [hI.2.2.2.2.1, List.append_assoc, List.cons_append, List.replicate_succ'], by dsimp only; omega⟩ (by dsimp only; omega)) (by (repeat first | exact LE.nil _ | refine LE.unk _ _ ?_ | refine LE.eq _ _ _ rfl ?_)) (by (repeat first | exact lessH0 | (refine lessHc ?_ ?_; (first | (first | ((simp (disch := omega) only [↓app0, ↓appC, ↓updS, ↓updN, ↓hpS, ↓hpN]) <;> first | rfl | assumption) | assumption | rfl) | (dsimp only; rw [List.map_append, ← bytRows]; rfl) | ((simp (disch := omega) only [app, upd, hp, if_pos, if_neg]); rw [List.map_append]; rfl))))) (Nat.le_refl _)
  · refine rNil ?_
    refine qSeq ?_
    refine wF rfl ?_
    refine wExit ?_
    refine qSeqX ?_
    refine qLoopX ?_
    refine qBlockX ?_
    refine qSeq ?_
    refine wSeq ?_
    refine wRegion ?_
    refine rmV rfl rfl rfl rfl rfl ?_
    refine rmS rfl rfl rfl rfl rfl ?_
    refine rls rfl rfl rfl rfl rfl rfl ?_
    refine rmulF rfl rfl rfl ?_ ?_ rfl rfl rfl ?_
    · (first | omega | assumption | (focus (simp only [strOf_size, numL_length]; omega)) | (focus (simp; omega)))
    · (first | omega | assumption | (focus (simp only [strOf_size, numL_length]; omega)) | (focus (simp; omega)))
    refine rcl (e37 _ 8 (Nat.le_of_ble_eq_true rfl)) rfl rfl rfl rfl rfl rfl ?_
    (apply rap (s' := 1)  rfl rfl; (first | ((simp (disch := omega) only [↓app0, ↓appC, ↓updS, ↓updN, ↓hpS, ↓hpN]) <;> first | rfl | assumption) | assumption | rfl); rfl; rfl; (first | rfl | omega | (rw [List.length_map]; omega) | (rw [rowsLen]; exact Nat.zero_add _)); rfl; rfl; exact (Nat.succ_ne_zero _); (first | rfl | (apply srcView rfl; (first | rfl | ((simp (disch := omega) only [app, upd, hp, if_pos, if_neg]); rfl)); (first | exact Nat.le_refl _ | omega); rfl)); (first | rfl | assumption | (focus (simp; done)) | (intro _ _; simp_all)); (first | omega | (focus (simp only [List.length_cons, List.length_nil]; omega)) | (first | (show (_ + 1) * _ ≤ _; omega) | (show _ + 1 ≤ _; omega) | (rw [rowsLen]; omega))); (first | omega | (focus (simp only [List.length_cons, List.length_nil]; omega)) | (first | (show (_ + 1) * _ ≤ _; omega) | (show _ + 1 ≤ _; omega) | (rw [rowsLen]; omega))); rfl; rfl; rfl)
    refine raV rfl rfl rfl rfl rfl ?_
    refine rNil ?_
    refine qSeq ?_
    refine wSeq ?_
    refine wRegion ?_
    refine rbd (cs := [.int _ _, .int _ _, .int _ _, .int _ _, .int _ _, .int _ _, .int _ _, .int _ _]) rfl rfl rfl rfl rfl ?_
    refine ral rfl rfl rfl rfl rfl rfl ?_
    (apply rst (u := .agg [.int _ _, .int _ _, .int _ _, .int _ _, .int _ _, .int _ _, .int _ _, .int _ _]) rfl rfl rfl; (first | ((simp (disch := omega) only [↓app0, ↓appC, ↓updS, ↓updN, ↓hpS, ↓hpN]) <;> first | rfl | assumption) | assumption | rfl); rfl; rfl; rfl; rfl; rfl; (exact Nat.le_of_ble_eq_true rfl); rfl; rfl; rfl)
    refine rNil ?_
    refine qSeq ?_
    refine wSeq ?_
    refine wBlock ?_
    refine wLoop ?_
    refine loopGo (fun (a : Nat × Nat × W8) => [.unk, .unk, .unk, .view m a.1 a.2.1, .ptr (m + 1) 0 0]) (fun (a : Nat × Nat × W8) => hp [(m, ⟨(L ++ byt (strOf (numL (8 * (t.size : Int)) 8))).map bV, 1, 5⟩), (m + 1, ⟨[a.2.2.V], 8, 150⟩)]) (fun (a : Nat × Nat × W8) => m + 2) (fun (a : Nat × Nat × W8) => a.1 + a.2.1 = ln + 8 ∧ a.2.1 % 64 = 0 ∧ a.2.2 = blks (L ++ byt (strOf (numL (8 * (t.size : Int)) 8))) (a.1 / 64)) (fun (a : Nat × Nat × W8) => a.2.1) (0, ln + ((strOf (numL (8 * (t.size : Int)) 8)).data.toList.map fun b => [V.int .u8 (b.toNat : Int)]).length, q0) ?_ ?_ ?_ ?_ ?_
    · have hn8 : (strOf (numL (8 * (t.size : Int)) 8)).size = 8 := by rw [strOf_size, numL_length]
      rw [tm64] at h2_3; exact ⟨by dsimp only; rw [rowsLen, hn8]; omega, by dsimp only; rw [rowsLen, hn8]; omega, by dsimp only; rw [Nat.zero_div, blks_zero]⟩
    · (repeat first | exact LE.nil _ | refine LE.unk _ _ ?_ | refine LE.eq _ _ _ rfl ?_)
    · (repeat first | exact lessH0 | (refine lessHc ?_ ?_; (first | (first | ((simp (disch := omega) only [↓app0, ↓appC, ↓updS, ↓updN, ↓hpS, ↓hpN]) <;> first | rfl | assumption) | assumption | rfl) | ((simp (disch := omega) only [app, upd, hp, if_pos, if_neg]); rw [List.map_append, ← bytRows]; rfl))))
    · exact Nat.le_refl _
    intro ⟨off, l2, q⟩ hI ih
    dsimp only at hI ⊢
    have hx : (strOf (numL (8 * (t.size : Int)) 8)).size = 8 := by rw [strOf_size, numL_length]
    have hQ := hI
    refine lStep ?_
    refine wSeq ?_
    refine wSeq ?_
    refine wRegion ?_
    refine rmV rfl rfl rfl rfl rfl ?_
    refine rll rfl rfl rfl rfl rfl rfl ?_
    refine rgt rfl rfl rfl rfl rfl rfl ?_ ?_ <;> intro h6_2
    · refine rNil ?_
      refine qSeq ?_
      refine wT rfl ?_
      refine wSkip ?_
      refine qSeq ?_
      refine wSeq ?_
      refine wBlock ?_
      refine wDraw [0, 0, 2, 7, 15] rfl (by decide +kernel) ?_
      (apply dlr (vs := [.int _ _, .int _ _, .int _ _, .int _ _, .int _ _, .int _ _, .int _ _, .int _ _]) rfl rfl; (first | ((simp (disch := omega) only [↓app0, ↓appC, ↓updS, ↓updN, ↓hpS, ↓hpN]) <;> first | rfl | assumption) | assumption | rfl); rfl; rfl; (exact Nat.le_of_ble_eq_true rfl); rfl; rfl; rfl; rfl)
      refine dmV rfl rfl rfl rfl rfl ?_
      (apply dslv rfl rfl rfl; (first | ((simp (disch := omega) only [↓app0, ↓appC, ↓updS, ↓updN, ↓hpS, ↓hpN]) <;> first | rfl | assumption) | assumption | rfl); rfl; rfl; rfl; (first | omega | assumption | (focus (simp only [strOf_size, numL_length]; omega)) | (focus (simp; omega))); (first | omega | assumption | (focus (simp only [strOf_size, numL_length]; omega)) | (focus (simp; omega))); (first | omega | assumption | (focus (simp only [strOf_size, numL_length]; omega)) | (focus (simp; omega))); rfl; rfl; rfl)
      apply dclS [m] (e48 q true ((((L ++ byt (strOf (numL (8 * (t.size : Int)) 8))).drop off).take 64)) (by rw [List.length_take, List.length_drop, List.length_append, byt_length, hx]; omega)) rfl rfl rfl
      · refine SnapL.cons _ _ _ _ (SnapC.agg ?_) (SnapL.cons _ _ _ _ (.one _ _ (snapCut (b := ⟨(L ++ byt (strOf (numL (8 * (t.size : Int)) 8))).map bV, 1, 5⟩) (L ++ byt (strOf (numL (8 * (t.size : Int)) 8))) (List.mem_singleton.2 rfl) ?_ rfl ?_)) SnapL.nil)
        · (repeat first | exact SnapC.nil | refine SnapC.cons _ _ _ _ ?_ ?_ | exact .int _ _)
        · ((simp (disch := omega) only [app, upd, hp, if_pos, if_neg]); rfl)
        · (rw [List.length_append, byt_length, hx]; omega)
      · rfl
      · rfl
      · rfl
      (apply dst (u := .agg [.int _ _, .int _ _, .int _ _, .int _ _, .int _ _, .int _ _, .int _ _, .int _ _]) rfl rfl rfl; (first | ((simp (disch := omega) only [↓app0, ↓appC, ↓updS, ↓updN, ↓hpS, ↓hpN]) <;> first | rfl | assumption) | assumption | rfl); rfl; rfl; rfl; rfl; rfl; (exact Nat.le_of_ble_eq_true rfl); rfl; rfl; rfl)
      refine dNilR 5 [3, 1, 1, 0, 1] [] rfl rfl (by decide +kernel) trivial ?_
      refine qBlock ?_
      refine qSeq ?_
      refine wRegion ?_
      refine rmV rfl rfl rfl rfl rfl ?_
      (apply rslv rfl rfl rfl; (first | ((simp (disch := omega) only [↓app0, ↓appC, ↓updS, ↓updN, ↓hpS, ↓hpN]) <;> first | rfl | assumption) | assumption | rfl); rfl; rfl; rfl; (first | omega | assumption | (focus (simp only [strOf_size, numL_length]; omega)) | (focus (simp; omega))); (first | omega | assumption | (focus (simp only [strOf_size, numL_length]; omega)) | (focus (simp; omega))); (first | omega | assumption | (focus (simp only [strOf_size, numL_length]; omega)) | (focus (simp; omega))); rfl; rfl; rfl)
      refine raV rfl rfl rfl rfl rfl ?_
      refine rNil ?_
      refine qLoop ?_
      rw [tm64] at h2_3
      exact wlH (ih (off + 64, l2 - 64, blk8 q (((L ++ byt (strOf (numL (8 * (t.size : Int)) 8))).drop off).take 64)) ⟨by dsimp only; omega, by dsimp only; omega, by dsimp only; rw [show (off + 64) / 64 = off / 64 + 1 by omega, blks_succ, show 64 * (off / 64) = off by omega, ← hI.2.2]⟩ (by dsimp only; omega)) (by (repeat first | exact LE.nil _ | refine LE.unk _ _ ?_ | refine LE.eq _ _ _ rfl ?_)) (by (repeat first | exact lessH0 | (refine lessHc ?_ ?_; (first | (first | ((simp (disch := omega) only [↓app0, ↓appC, ↓updS, ↓updN, ↓hpS, ↓hpN]) <;> first | rfl | assumption) | assumption | rfl) | ((simp (disch := omega) only [app, upd, hp, if_pos, if_neg]); rw [List.map_append, ← bytRows]; rfl))))) (Nat.le_refl _)
    · refine rNil ?_
      refine qSeq ?_
      refine wF rfl ?_
      refine wExit ?_
      refine qSeqX ?_
      refine qLoopX ?_
      refine qBlockX ?_
      refine qSeq ?_
      refine wSeq ?_
      refine wRegion ?_
      refine raS rfl rfl rfl rfl rfl ?_
      refine rNil ?_
      refine qSeq ?_
      refine wSeq ?_
      refine wSeq ?_
      refine wRegion ?_
      (apply rlr (vs := [.int _ _, .int _ _, .int _ _, .int _ _, .int _ _, .int _ _, .int _ _, .int _ _]) rfl rfl; (first | ((simp (disch := omega) only [↓app0, ↓appC, ↓updS, ↓updN, ↓hpS, ↓hpN]) <;> first | rfl | assumption) | assumption | rfl); rfl; rfl; (exact Nat.le_of_ble_eq_true rfl); rfl; rfl; rfl; rfl)
      refine rmI rfl rfl rfl rfl rfl ?_
      refine rNil ?_
      refine qSeq ?_
      refine wBlock ?_
      refine wLoop ?_
      refine loopGo0 (fun (a : Nat × ByteArray) => [.unk, .unk, .unk, .unk, .unk, .str a.2, .unk, .unk, .unk, .unk, .unk, .unk, .unk, .unk, .unk, .unk, .unk, .unk, .unk, .unk, .unk, .unk, .unk, .unk, .unk, .unk, .unk, .unk, .unk, .unk, .unk, .unk, .unk, .unk, .unk, .agg q.V, .int .i64 a.1]) (fun (a : Nat × ByteArray) => a.1 ≤ 8 ∧ a.2.size = 4 * a.1 ∧ a.2 = outS q a.1) (fun (a : Nat × ByteArray) => 8 - a.1) (0, ⟨#[]⟩) ?_ ?_ ?_
      · exact ⟨Nat.zero_le _, rfl, by dsimp only; rw [outS_zero]⟩
      · (repeat first | exact LE.nil _ | refine LE.unk _ _ ?_ | refine LE.eq _ _ _ rfl ?_)
      intro ⟨i, s⟩ hI ih
      dsimp only at hI ⊢
      have hn4 := fun x => (strOf_size (numL x 4)).trans (numL_length 4 x)
      refine lStep ?_
      refine wSeq ?_
      refine wRegion ?_
      refine rlt rfl rfl rfl rfl rfl rfl ?_ ?_ <;> intro h11_0
      · refine rNil ?_
        refine qSeq ?_
        refine wSeq ?_
        refine wT rfl ?_
        refine wSkip ?_
        refine qSeq ?_
        refine wSeq ?_
        refine wBlock ?_
        refine wSeq ?_
        refine wRegion ?_
        (apply rixg (c := 8) (s := 1) rfl rfl rfl rfl rfl; (first | omega | assumption | (focus (simp only [strOf_size, numL_length]; omega)) | (focus (simp; omega))); (first | omega | assumption | (focus (simp only [strOf_size, numL_length]; omega)) | (focus (simp; omega))); exact getW (L := [q.a, q.b, q.c, q.d, q.e, q.f, q.g, q.h]) (by show _ < 8; omega); (show _ + 1 ≤ 8; omega); rfl; rfl; rfl)
        refine raI rfl rfl rfl rfl rfl ?_
        refine rNil ?_
        refine qSeq ?_
        refine wRegion ?_
        refine rmS rfl rfl rfl rfl rfl ?_
        refine rmI rfl rfl rfl rfl rfl ?_
        refine rcv rfl rfl rfl rfl rfl rfl rfl ?_
        refine rcl (e37 _ 4 (Nat.le_of_ble_eq_true rfl)) rfl rfl rfl rfl rfl rfl ?_
        refine rcat rfl rfl rfl ?_ rfl rfl rfl ?_
        · (first | omega | assumption | (focus (simp only [strOf_size, numL_length]; omega)) | (focus (simp; omega)))
        refine raS rfl rfl rfl rfl rfl ?_
        refine rNil ?_
        refine qBlock ?_
        refine qSeq ?_
        refine wRegion ?_
        refine raddF rfl rfl rfl ?_ ?_ rfl rfl rfl ?_
        · (first | omega | assumption | (focus (simp only [strOf_size, numL_length]; omega)) | (focus (simp; omega)))
        · (first | omega | assumption | (focus (simp only [strOf_size, numL_length]; omega)) | (focus (simp; omega)))
        refine rmI rfl rfl rfl rfl rfl ?_
        refine rNil ?_
        refine qLoop ?_
        exact wlN (ih (i + 1, s ++ strOf (numL (IntKind.i64.wrap (q.L.getD ((i : Int).toNat * 1) 0)) 4)) ⟨by dsimp only; omega, by dsimp only; rw [ByteArray.size_append, hn4]; omega, by dsimp only; rw [outS_succ, ← hI.2.2, Nat.mul_one, Int.toNat_natCast]⟩ (by dsimp only; omega)) (by (repeat first | exact LE.nil _ | refine LE.unk _ _ ?_ | refine LE.eq _ _ _ rfl ?_))
      · refine rNil ?_
        refine qSeq ?_
        refine wSeq ?_
        refine wF rfl ?_
        refine wExit ?_
        refine qSeqX ?_
        refine qLoopX ?_
        refine qBlockX ?_
        refine qSeq ?_
        refine wSeq ?_
        refine wRegion ?_
        refine rmS rfl rfl rfl rfl rfl ?_
        refine raS rfl rfl rfl rfl rfl ?_
        refine rNil ?_
        refine qSeq ?_
        refine wRet ?_
        have hs : s = sha t := by
          rw [tm64] at h2_3
          have hz : L = padL t := by rw [hP.2.2.2.2.1]; unfold padL; rw [show z = (120 - (t.size + 1) % 64) % 64 by omega]
          have hk : off / 64 = (shaF t).length / 64 := by unfold shaF; rw [List.length_append, ← hz, hP.1, byt_length, hx]; omega
          rw [hI.2.2, show i = 8 by omega, hQ.2.2, hk, hz]; rfl
        rw [hs]; exact fin rfl rfl
end Go.Proofs.YtcafccndgpopkaaDoor
