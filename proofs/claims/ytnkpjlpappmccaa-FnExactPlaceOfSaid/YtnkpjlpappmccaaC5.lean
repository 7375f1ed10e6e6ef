import Derived.Test.YtnkpjlpappmccaaC4
namespace Go.Proofs.Ytnkpjlpappmccaa
open Go.V
set_option linter.unusedVariables false
set_option linter.unusedSimpArgs false
set_option maxRecDepth 20000
set_option maxHeartbeats 4000000

noncomputable instance (t : ByteArray) : Decidable (hasRq t) := Classical.propDecidable _
noncomputable def rqIf (t : ByteArray) : Rq := if hasRq t then rqOf t else Rq0
theorem p55 (t : ByteArray) : Pure En 55 [.one (.str t)] [.agg (rqIf t).T, .one (.bool (decide (hasRq t ∧ (rqOf t).OK)))] := by
  by_cases h : hasRq t
  · have := p55a t h
    simpa [rqIf, h] using this
  · have := p55b t h
    simpa [rqIf, h] using this

def chunk (s : ByteArray) (i : Nat) : ByteArray := s.extract (1 + 13 * i) (14 + 13 * i)
theorem chunk_size (s : ByteArray) (i : Nat) (h : 14 + 13 * i ≤ s.size) : (chunk s i).size = 13 := by unfold chunk; rw [size_extract _ _ _ h]; omega
def rdOf (s : ByteArray) (i : Nat) : Rd := ⟨bt (chunk s i) 0, be (chunk s i) 1 4, (chunk s i).extract 5 (chunk s i).size⟩
def rds (s : ByteArray) (n : Nat) : List Rd := (List.range n).map (rdOf s)
theorem rds_length (s : ByteArray) (n : Nat) : (rds s n).length = n := by simp [rds]
theorem rds_succ (s : ByteArray) (n : Nat) : rds s (n + 1) = rds s n ++ [rdOf s n] := by simp [rds, List.range_succ]
def cnt (s : ByteArray) : Nat := (bt s 0 - 1).toNat
def rqTail (s : ByteArray) : ByteArray := s.extract (1 + 13 * (bt s 0 - 1)).toNat s.size
theorem pos_ne {s : ByteArray} (h : ¬ s = ⟨#[]⟩) : (0 : Int) < s.size := by
  have : s.size ≠ 0 := by
    intro h0
    apply h
    obtain ⟨d⟩ := s
    have : d.size = 0 := h0
    rw [Array.eq_empty_of_size_eq_zero this]
  omega
noncomputable def resB (s : ByteArray) : List T :=
  if s.size = 0 then btT false Rq0 .nsl else if bt s 0 = 0 then btT true Rq0 (.sl true []) else if (s.size : Int) < 1 + 13 * (bt s 0 - 1) then btT false Rq0 .nsl
  else btT false (rqIf (rqTail s)) (.sl true ((rds s (cnt s)).map Rd.T))
/-- Is it a batch's text? -/
def batchOK (s : ByteArray) : Prop := s.size ≠ 0 ∧ ((bt s 0 = 0 ∧ s.size = 1) ∨ (bt s 0 ≠ 0 ∧ 1 + 13 * (bt s 0 - 1) ≤ s.size ∧ hasRq (rqTail s) ∧ btOK (rqOf (rqTail s)) (rds s (cnt s))))
noncomputable instance (s : ByteArray) : Decidable (batchOK s) := Classical.propDecidable _

theorem resB_0 {s : ByteArray} (h : s.size = 0) : resB s = btT false Rq0 .nsl := by simp [resB, h]
theorem resB_1 {s : ByteArray} (h : s.size ≠ 0) (h1 : bt s 0 = 0) : resB s = btT true Rq0 (.sl true []) := by simp [resB, h, h1]
theorem resB_2 {s : ByteArray} (h : s.size ≠ 0) (h1 : bt s 0 ≠ 0) (h2 : (s.size : Int) < 1 + 13 * (bt s 0 - 1)) : resB s = btT false Rq0 .nsl := by simp [resB, h, h1, h2]
theorem resB_3 {s : ByteArray} (h : s.size ≠ 0) (h1 : bt s 0 ≠ 0) (h2 : ¬ (s.size : Int) < 1 + 13 * (bt s 0 - 1)) : resB s = btT false (rqIf (rqTail s)) (.sl true ((rds s (cnt s)).map Rd.T)) := by simp [resB, h, h1, h2]

def blkB (x : V) : Blk := ⟨[[.bool false, .int .i64 0, .int .i64 0, .int .i64 0, .int .i64 0, .str ⟨#[]⟩, x]], 7, 67⟩

theorem p28 (s : ByteArray) : Pure En 28 [.one (.str s)] [.agg (resB s), .one (.bool (decide (batchOK s)))] := by
  have b1 := bt_0 s 0
  have b2 := bt_255 s 0
  refine Pure.of_wp Try.func28 rfl (Nat.le_of_ble_eq_true rfl) ?_
  refine wSeq ?_
  refine wRegion ?_
  refine ral rfl rfl rfl rfl rfl rfl ?_
  refine raB rfl rfl rfl rfl rfl ?_
  refine rNil ?_
  refine qSeq ?_
  refine wSeq ?_
  refine wSeq ?_
  refine wRegion ?_
  refine rmS rfl rfl rfl rfl rfl ?_
  refine rseq rfl rfl rfl rfl rfl rfl ?_ ?_ <;> intro h1_1
  · refine rNil ?_
    refine qSeq ?_
    refine wT rfl ?_
    refine wSeq ?_
    refine wRegion ?_
    refine rbd (cs := [.bool _, .int _ _, .int _ _, .int _ _, .int _ _, .str _, _]) rfl rfl rfl rfl rfl ?_
    (apply rst rfl rfl rfl; (first | rfl | assumption | ((simp (disch := omega) only [app, upd, hp, if_pos, if_neg]); first | rfl | assumption)); rfl; rfl; rfl; rfl; rfl; (exact Nat.le_of_ble_eq_true rfl); rfl; rfl; rfl)
    refine raB rfl rfl rfl rfl rfl ?_
    refine rNil ?_
    refine qSeq ?_
    refine wRet ?_
    refine qSeqR ?_
    first
      | (have z : s.size = 0 := (by rw [h1_1]; rfl); rw [resB_0 z, decide_eq_false (fun h => h.1 z)]; exact fin rfl rfl)
      | (have z : s.size ≠ 0 := (by have := pos_ne h1_1; omega); rw [resB_1 z h4_1, decide_eq_true ⟨z, .inl ⟨h4_1, by omega⟩⟩]; refine finS (xs := [.agg [_, _, _, _, _, _, _], _]) [1] rfl ?_; (repeat first | exact SnapL.nil | exact SnapC.nil | refine SnapL.cons _ _ _ _ (SnapC.agg ?_) ?_ | refine SnapL.cons _ _ _ _ (.one _ _ ?_) ?_ | refine SnapC.cons _ _ _ _ ?_ ?_ | exact .int _ _ | exact .bool _ | exact .str _ | exact .nsl | exact .nslW | (apply snapView [] <;> first | (focus (simp [rds_length]; done)) | (first | rfl | assumption | ((simp (disch := omega) only [app, upd, hp, if_pos, if_neg]); first | rfl | assumption)))))
      | (have z : s.size ≠ 0 := (by have := pos_ne h1_1; omega); rw [resB_1 z h4_1, decide_eq_false (fun h => h.2.elim (fun e => h5_4 (by omega)) (fun e => e.1 h4_1))]; refine finS (xs := [.agg [_, _, _, _, _, _, _], _]) [1] rfl ?_; (repeat first | exact SnapL.nil | exact SnapC.nil | refine SnapL.cons _ _ _ _ (SnapC.agg ?_) ?_ | refine SnapL.cons _ _ _ _ (.one _ _ ?_) ?_ | refine SnapC.cons _ _ _ _ ?_ ?_ | exact .int _ _ | exact .bool _ | exact .str _ | exact .nsl | exact .nslW | (apply snapView [] <;> first | (focus (simp [rds_length]; done)) | (first | rfl | assumption | ((simp (disch := omega) only [app, upd, hp, if_pos, if_neg]); first | rfl | assumption)))))
      | (have z : s.size ≠ 0 := (by have := pos_ne h1_1; omega); rw [resB_2 z h4_1 h6_6, decide_eq_false (fun h => h.2.elim (fun e => h4_1 e.1) (fun e => (by omega)))]; exact fin rfl rfl)
      | (have z : s.size ≠ 0 := (by have := pos_ne h1_1; omega); obtain rfl : i = cnt s := (by unfold cnt; omega); have hq := of_decide_eq_true h14_9; have eq : rqIf (rqTail s) = rqOf (rqTail s) := if_pos hq.1; rw [resB_3 z h4_1 h6_6, decide_eq_true ⟨z, .inr ⟨h4_1, by omega, hq.1, by rw [← eq]; exact h16_4⟩⟩]; refine finS (xs := [.agg [_, _, _, _, _, _, _], _]) [q] rfl ?_; (repeat first | exact SnapL.nil | exact SnapC.nil | refine SnapL.cons _ _ _ _ (SnapC.agg ?_) ?_ | refine SnapL.cons _ _ _ _ (.one _ _ ?_) ?_ | refine SnapC.cons _ _ _ _ ?_ ?_ | exact .int _ _ | exact .bool _ | exact .str _ | exact .nsl | exact .nslW | (apply snapView ((rds s (cnt s)).map Rd.T) <;> first | (focus (simp [rds_length]; done)) | (first | rfl | assumption | ((simp (disch := omega) only [app, upd, hp, if_pos, if_neg]); first | rfl | assumption)))))
      | (have z : s.size ≠ 0 := (by have := pos_ne h1_1; omega); obtain rfl : i = cnt s := (by unfold cnt; omega); rw [resB_3 z h4_1 h6_6, decide_eq_false (fun h => h.2.elim (fun e => h4_1 e.1) (fun e => (by first | exact of_decide_eq_false h14_9 ⟨e.2.2.1, e.2.2.2.1⟩ | (have eq : rqIf (rqTail s) = rqOf (rqTail s) := if_pos e.2.2.1; rw [eq] at h16_4; exact h16_4 e.2.2.2))))]; refine finS (xs := [.agg [_, _, _, _, _, _, _], _]) [q] rfl ?_; (repeat first | exact SnapL.nil | exact SnapC.nil | refine SnapL.cons _ _ _ _ (SnapC.agg ?_) ?_ | refine SnapL.cons _ _ _ _ (.one _ _ ?_) ?_ | refine SnapC.cons _ _ _ _ ?_ ?_ | exact .int _ _ | exact .bool _ | exact .str _ | exact .nsl | exact .nslW | (apply snapView ((rds s (cnt s)).map Rd.T) <;> first | (focus (simp [rds_length]; done)) | (first | rfl | assumption | ((simp (disch := omega) only [app, upd, hp, if_pos, if_neg]); first | rfl | assumption)))))
  · refine rNil ?_
    refine qSeq ?_
    refine wF rfl ?_
    refine wSkip ?_
    refine qSeq ?_
    refine wSeq ?_
    refine wRegion ?_
    refine rmS rfl rfl rfl rfl rfl ?_
    refine rixsK (i := 0) rfl rfl rfl rfl ?_ ?_ rfl rfl rfl rfl ?_
    · (first | omega | (have hc := pos_ne h1_1; omega) | (have hc := chunk_size s i (by omega); omega))
    · (first | omega | (have hc := pos_ne h1_1; omega) | (have hc := chunk_size s i (by omega); omega))
    refine rcvF rfl rfl rfl rfl ?_ ?_ rfl rfl rfl ?_
    · (first | exact bt_ge _ _ | exact bt_le _ _ | omega)
    · (first | exact bt_ge _ _ | exact bt_le _ _ | omega)
    refine raI rfl rfl rfl rfl rfl ?_
    refine rNil ?_
    refine qSeq ?_
    refine wSeq ?_
    refine wSeq ?_
    refine wRegion ?_
    refine rmI rfl rfl rfl rfl rfl ?_
    refine req rfl rfl rfl rfl rfl rfl ?_ ?_ <;> intro h4_1
    · refine rNil ?_
      refine qSeq ?_
      refine wT rfl ?_
      refine wSeq ?_
      refine wRegion ?_
      refine rbs (es := []) rfl rfl rfl rfl (Nat.succ_ne_zero _) (Nat.le_of_ble_eq_true rfl) rfl rfl rfl rfl rfl ?_
      refine rbd (cs := [.bool _, .int _ _, .int _ _, .int _ _, .int _ _, .str _, _]) rfl rfl rfl rfl rfl ?_
      refine rmS rfl rfl rfl rfl rfl ?_
      refine rls rfl rfl rfl rfl rfl rfl ?_
      refine req rfl rfl rfl rfl rfl rfl ?_ ?_ <;> intro h5_4
      · (apply rst rfl rfl rfl; (first | rfl | assumption | ((simp (disch := omega) only [app, upd, hp, if_pos, if_neg]); first | rfl | assumption)); rfl; rfl; rfl; rfl; rfl; (exact Nat.le_of_ble_eq_true rfl); rfl; rfl; rfl)
        refine raB rfl rfl rfl rfl rfl ?_
        refine rNil ?_
        refine qSeq ?_
        refine wRet ?_
        refine qSeqR ?_
        first
          | (have z : s.size = 0 := (by rw [h1_1]; rfl); rw [resB_0 z, decide_eq_false (fun h => h.1 z)]; exact fin rfl rfl)
          | (have z : s.size ≠ 0 := (by have := pos_ne h1_1; omega); rw [resB_1 z h4_1, decide_eq_true ⟨z, .inl ⟨h4_1, by omega⟩⟩]; refine finS (xs := [.agg [_, _, _, _, _, _, _], _]) [1] rfl ?_; (repeat first | exact SnapL.nil | exact SnapC.nil | refine SnapL.cons _ _ _ _ (SnapC.agg ?_) ?_ | refine SnapL.cons _ _ _ _ (.one _ _ ?_) ?_ | refine SnapC.cons _ _ _ _ ?_ ?_ | exact .int _ _ | exact .bool _ | exact .str _ | exact .nsl | exact .nslW | (apply snapView [] <;> first | (focus (simp [rds_length]; done)) | (first | rfl | assumption | ((simp (disch := omega) only [app, upd, hp, if_pos, if_neg]); first | rfl | assumption)))))
          | (have z : s.size ≠ 0 := (by have := pos_ne h1_1; omega); rw [resB_1 z h4_1, decide_eq_false (fun h => h.2.elim (fun e => h5_4 (by omega)) (fun e => e.1 h4_1))]; refine finS (xs := [.agg [_, _, _, _, _, _, _], _]) [1] rfl ?_; (repeat first | exact SnapL.nil | exact SnapC.nil | refine SnapL.cons _ _ _ _ (SnapC.agg ?_) ?_ | refine SnapL.cons _ _ _ _ (.one _ _ ?_) ?_ | refine SnapC.cons _ _ _ _ ?_ ?_ | exact .int _ _ | exact .bool _ | exact .str _ | exact .nsl | exact .nslW | (apply snapView [] <;> first | (focus (simp [rds_length]; done)) | (first | rfl | assumption | ((simp (disch := omega) only [app, upd, hp, if_pos, if_neg]); first | rfl | assumption)))))
          | (have z : s.size ≠ 0 := (by have := pos_ne h1_1; omega); rw [resB_2 z h4_1 h6_6, decide_eq_false (fun h => h.2.elim (fun e => h4_1 e.1) (fun e => (by omega)))]; exact fin rfl rfl)
          | (have z : s.size ≠ 0 := (by have := pos_ne h1_1; omega); obtain rfl : i = cnt s := (by unfold cnt; omega); have hq := of_decide_eq_true h14_9; have eq : rqIf (rqTail s) = rqOf (rqTail s) := if_pos hq.1; rw [resB_3 z h4_1 h6_6, decide_eq_true ⟨z, .inr ⟨h4_1, by omega, hq.1, by rw [← eq]; exact h16_4⟩⟩]; refine finS (xs := [.agg [_, _, _, _, _, _, _], _]) [q] rfl ?_; (repeat first | exact SnapL.nil | exact SnapC.nil | refine SnapL.cons _ _ _ _ (SnapC.agg ?_) ?_ | refine SnapL.cons _ _ _ _ (.one _ _ ?_) ?_ | refine SnapC.cons _ _ _ _ ?_ ?_ | exact .int _ _ | exact .bool _ | exact .str _ | exact .nsl | exact .nslW | (apply snapView ((rds s (cnt s)).map Rd.T) <;> first | (focus (simp [rds_length]; done)) | (first | rfl | assumption | ((simp (disch := omega) only [app, upd, hp, if_pos, if_neg]); first | rfl | assumption)))))
          | (have z : s.size ≠ 0 := (by have := pos_ne h1_1; omega); obtain rfl : i = cnt s := (by unfold cnt; omega); rw [resB_3 z h4_1 h6_6, decide_eq_false (fun h => h.2.elim (fun e => h4_1 e.1) (fun e => (by first | exact of_decide_eq_false h14_9 ⟨e.2.2.1, e.2.2.2.1⟩ | (have eq : rqIf (rqTail s) = rqOf (rqTail s) := if_pos e.2.2.1; rw [eq] at h16_4; exact h16_4 e.2.2.2))))]; refine finS (xs := [.agg [_, _, _, _, _, _, _], _]) [q] rfl ?_; (repeat first | exact SnapL.nil | exact SnapC.nil | refine SnapL.cons _ _ _ _ (SnapC.agg ?_) ?_ | refine SnapL.cons _ _ _ _ (.one _ _ ?_) ?_ | refine SnapC.cons _ _ _ _ ?_ ?_ | exact .int _ _ | exact .bool _ | exact .str _ | exact .nsl | exact .nslW | (apply snapView ((rds s (cnt s)).map Rd.T) <;> first | (focus (simp [rds_length]; done)) | (first | rfl | assumption | ((simp (disch := omega) only [app, upd, hp, if_pos, if_neg]); first | rfl | assumption)))))
      · (apply rst rfl rfl rfl; (first | rfl | assumption | ((simp (disch := omega) only [app, upd, hp, if_pos, if_neg]); first | rfl | assumption)); rfl; rfl; rfl; rfl; rfl; (exact Nat.le_of_ble_eq_true rfl); rfl; rfl; rfl)
        refine raB rfl rfl rfl rfl rfl ?_
        refine rNil ?_
        refine qSeq ?_
        refine wRet ?_
        refine qSeqR ?_
        first
          | (have z : s.size = 0 := (by rw [h1_1]; rfl); rw [resB_0 z, decide_eq_false (fun h => h.1 z)]; exact fin rfl rfl)
          | (have z : s.size ≠ 0 := (by have := pos_ne h1_1; omega); rw [resB_1 z h4_1, decide_eq_true ⟨z, .inl ⟨h4_1, by omega⟩⟩]; refine finS (xs := [.agg [_, _, _, _, _, _, _], _]) [1] rfl ?_; (repeat first | exact SnapL.nil | exact SnapC.nil | refine SnapL.cons _ _ _ _ (SnapC.agg ?_) ?_ | refine SnapL.cons _ _ _ _ (.one _ _ ?_) ?_ | refine SnapC.cons _ _ _ _ ?_ ?_ | exact .int _ _ | exact .bool _ | exact .str _ | exact .nsl | exact .nslW | (apply snapView [] <;> first | (focus (simp [rds_length]; done)) | (first | rfl | assumption | ((simp (disch := omega) only [app, upd, hp, if_pos, if_neg]); first | rfl | assumption)))))
          | (have z : s.size ≠ 0 := (by have := pos_ne h1_1; omega); rw [resB_1 z h4_1, decide_eq_false (fun h => h.2.elim (fun e => h5_4 (by omega)) (fun e => e.1 h4_1))]; refine finS (xs := [.agg [_, _, _, _, _, _, _], _]) [1] rfl ?_; (repeat first | exact SnapL.nil | exact SnapC.nil | refine SnapL.cons _ _ _ _ (SnapC.agg ?_) ?_ | refine SnapL.cons _ _ _ _ (.one _ _ ?_) ?_ | refine SnapC.cons _ _ _ _ ?_ ?_ | exact .int _ _ | exact .bool _ | exact .str _ | exact .nsl | exact .nslW | (apply snapView [] <;> first | (focus (simp [rds_length]; done)) | (first | rfl | assumption | ((simp (disch := omega) only [app, upd, hp, if_pos, if_neg]); first | rfl | assumption)))))
          | (have z : s.size ≠ 0 := (by have := pos_ne h1_1; omega); rw [resB_2 z h4_1 h6_6, decide_eq_false (fun h => h.2.elim (fun e => h4_1 e.1) (fun e => (by omega)))]; exact fin rfl rfl)
          | (have z : s.size ≠ 0 := (by have := pos_ne h1_1; omega); obtain rfl : i = cnt s := (by unfold cnt; omega); have hq := of_decide_eq_true h14_9; have eq : rqIf (rqTail s) = rqOf (rqTail s) := if_pos hq.1; rw [resB_3 z h4_1 h6_6, decide_eq_true ⟨z, .inr ⟨h4_1, by omega, hq.1, by rw [← eq]; exact h16_4⟩⟩]; refine finS (xs := [.agg [_, _, _, _, _, _, _], _]) [q] rfl ?_; (repeat first | exact SnapL.nil | exact SnapC.nil | refine SnapL.cons _ _ _ _ (SnapC.agg ?_) ?_ | refine SnapL.cons _ _ _ _ (.one _ _ ?_) ?_ | refine SnapC.cons _ _ _ _ ?_ ?_ | exact .int _ _ | exact .bool _ | exact .str _ | exact .nsl | exact .nslW | (apply snapView ((rds s (cnt s)).map Rd.T) <;> first | (focus (simp [rds_length]; done)) | (first | rfl | assumption | ((simp (disch := omega) only [app, upd, hp, if_pos, if_neg]); first | rfl | assumption)))))
          | (have z : s.size ≠ 0 := (by have := pos_ne h1_1; omega); obtain rfl : i = cnt s := (by unfold cnt; omega); rw [resB_3 z h4_1 h6_6, decide_eq_false (fun h => h.2.elim (fun e => h4_1 e.1) (fun e => (by first | exact of_decide_eq_false h14_9 ⟨e.2.2.1, e.2.2.2.1⟩ | (have eq : rqIf (rqTail s) = rqOf (rqTail s) := if_pos e.2.2.1; rw [eq] at h16_4; exact h16_4 e.2.2.2))))]; refine finS (xs := [.agg [_, _, _, _, _, _, _], _]) [q] rfl ?_; (repeat first | exact SnapL.nil | exact SnapC.nil | refine SnapL.cons _ _ _ _ (SnapC.agg ?_) ?_ | refine SnapL.cons _ _ _ _ (.one _ _ ?_) ?_ | refine SnapC.cons _ _ _ _ ?_ ?_ | exact .int _ _ | exact .bool _ | exact .str _ | exact .nsl | exact .nslW | (apply snapView ((rds s (cnt s)).map Rd.T) <;> first | (focus (simp [rds_length]; done)) | (first | rfl | assumption | ((simp (disch := omega) only [app, upd, hp, if_pos, if_neg]); first | rfl | assumption)))))
    · refine rNil ?_
      refine qSeq ?_
      refine wF rfl ?_
      refine wSkip ?_
      refine qSeq ?_
      refine wSeq ?_
      refine wSeq ?_
      refine wRegion ?_
      refine rmS rfl rfl rfl rfl rfl ?_
      refine rls rfl rfl rfl rfl rfl rfl ?_
      refine rmI rfl rfl rfl rfl rfl ?_
      refine rsubF rfl rfl rfl ?_ ?_ rfl rfl rfl ?_
      · (first | omega | (have hc := pos_ne h1_1; omega) | (have hc := chunk_size s i (by omega); omega))
      · (first | omega | (have hc := pos_ne h1_1; omega) | (have hc := chunk_size s i (by omega); omega))
      refine rmulF rfl rfl rfl ?_ ?_ rfl rfl rfl ?_
      · (first | omega | (have hc := pos_ne h1_1; omega) | (have hc := chunk_size s i (by omega); omega))
      · (first | omega | (have hc := pos_ne h1_1; omega) | (have hc := chunk_size s i (by omega); omega))
      refine raddF rfl rfl rfl ?_ ?_ rfl rfl rfl ?_
      · (first | omega | (have hc := pos_ne h1_1; omega) | (have hc := chunk_size s i (by omega); omega))
      · (first | omega | (have hc := pos_ne h1_1; omega) | (have hc := chunk_size s i (by omega); omega))
      refine rlt rfl rfl rfl rfl rfl rfl ?_ ?_ <;> intro h6_6
      · refine rNil ?_
        refine qSeq ?_
        refine wT rfl ?_
        refine wSeq ?_
        refine wRegion ?_
        refine rbd (cs := [.bool _, .int _ _, .int _ _, .int _ _, .int _ _, .str _, _]) rfl rfl rfl rfl rfl ?_
        (apply rst rfl rfl rfl; (first | rfl | assumption | ((simp (disch := omega) only [app, upd, hp, if_pos, if_neg]); first | rfl | assumption)); rfl; rfl; rfl; rfl; rfl; (exact Nat.le_of_ble_eq_true rfl); rfl; rfl; rfl)
        refine raB rfl rfl rfl rfl rfl ?_
        refine rNil ?_
        refine qSeq ?_
        refine wRet ?_
        refine qSeqR ?_
        first
          | (have z : s.size = 0 := (by rw [h1_1]; rfl); rw [resB_0 z, decide_eq_false (fun h => h.1 z)]; exact fin rfl rfl)
          | (have z : s.size ≠ 0 := (by have := pos_ne h1_1; omega); rw [resB_1 z h4_1, decide_eq_true ⟨z, .inl ⟨h4_1, by omega⟩⟩]; refine finS (xs := [.agg [_, _, _, _, _, _, _], _]) [1] rfl ?_; (repeat first | exact SnapL.nil | exact SnapC.nil | refine SnapL.cons _ _ _ _ (SnapC.agg ?_) ?_ | refine SnapL.cons _ _ _ _ (.one _ _ ?_) ?_ | refine SnapC.cons _ _ _ _ ?_ ?_ | exact .int _ _ | exact .bool _ | exact .str _ | exact .nsl | exact .nslW | (apply snapView [] <;> first | (focus (simp [rds_length]; done)) | (first | rfl | assumption | ((simp (disch := omega) only [app, upd, hp, if_pos, if_neg]); first | rfl | assumption)))))
          | (have z : s.size ≠ 0 := (by have := pos_ne h1_1; omega); rw [resB_1 z h4_1, decide_eq_false (fun h => h.2.elim (fun e => h5_4 (by omega)) (fun e => e.1 h4_1))]; refine finS (xs := [.agg [_, _, _, _, _, _, _], _]) [1] rfl ?_; (repeat first | exact SnapL.nil | exact SnapC.nil | refine SnapL.cons _ _ _ _ (SnapC.agg ?_) ?_ | refine SnapL.cons _ _ _ _ (.one _ _ ?_) ?_ | refine SnapC.cons _ _ _ _ ?_ ?_ | exact .int _ _ | exact .bool _ | exact .str _ | exact .nsl | exact .nslW | (apply snapView [] <;> first | (focus (simp [rds_length]; done)) | (first | rfl | assumption | ((simp (disch := omega) only [app, upd, hp, if_pos, if_neg]); first | rfl | assumption)))))
          | (have z : s.size ≠ 0 := (by have := pos_ne h1_1; omega); rw [resB_2 z h4_1 h6_6, decide_eq_false (fun h => h.2.elim (fun e => h4_1 e.1) (fun e => (by omega)))]; exact fin rfl rfl)
          | (have z : s.size ≠ 0 := (by have := pos_ne h1_1; omega); obtain rfl : i = cnt s := (by unfold cnt; omega); have hq := of_decide_eq_true h14_9; have eq : rqIf (rqTail s) = rqOf (rqTail s) := if_pos hq.1; rw [resB_3 z h4_1 h6_6, decide_eq_true ⟨z, .inr ⟨h4_1, by omega, hq.1, by rw [← eq]; exact h16_4⟩⟩]; refine finS (xs := [.agg [_, _, _, _, _, _, _], _]) [q] rfl ?_; (repeat first | exact SnapL.nil | exact SnapC.nil | refine SnapL.cons _ _ _ _ (SnapC.agg ?_) ?_ | refine SnapL.cons _ _ _ _ (.one _ _ ?_) ?_ | refine SnapC.cons _ _ _ _ ?_ ?_ | exact .int _ _ | exact .bool _ | exact .str _ | exact .nsl | exact .nslW | (apply snapView ((rds s (cnt s)).map Rd.T) <;> first | (focus (simp [rds_length]; done)) | (first | rfl | assumption | ((simp (disch := omega) only [app, upd, hp, if_pos, if_neg]); first | rfl | assumption)))))
          | (have z : s.size ≠ 0 := (by have := pos_ne h1_1; omega); obtain rfl : i = cnt s := (by unfold cnt; omega); rw [resB_3 z h4_1 h6_6, decide_eq_false (fun h => h.2.elim (fun e => h4_1 e.1) (fun e => (by first | exact of_decide_eq_false h14_9 ⟨e.2.2.1, e.2.2.2.1⟩ | (have eq : rqIf (rqTail s) = rqOf (rqTail s) := if_pos e.2.2.1; rw [eq] at h16_4; exact h16_4 e.2.2.2))))]; refine finS (xs := [.agg [_, _, _, _, _, _, _], _]) [q] rfl ?_; (repeat first | exact SnapL.nil | exact SnapC.nil | refine SnapL.cons _ _ _ _ (SnapC.agg ?_) ?_ | refine SnapL.cons _ _ _ _ (.one _ _ ?_) ?_ | refine SnapC.cons _ _ _ _ ?_ ?_ | exact .int _ _ | exact .bool _ | exact .str _ | exact .nsl | exact .nslW | (apply snapView ((rds s (cnt s)).map Rd.T) <;> first | (focus (simp [rds_length]; done)) | (first | rfl | assumption | ((simp (disch := omega) only [app, upd, hp, if_pos, if_neg]); first | rfl | assumption)))))
      · refine rNil ?_
        refine qSeq ?_
        refine wF rfl ?_
        refine wSkip ?_
        refine qSeq ?_
        refine wSeq ?_
        refine wRegion ?_
        refine rbs (es := []) rfl rfl rfl rfl (Nat.succ_ne_zero _) (Nat.le_of_ble_eq_true rfl) rfl rfl rfl rfl rfl ?_
        refine rbd (cs := [.bool _, .int _ _, .int _ _, .int _ _, .int _ _, .str _, _]) rfl rfl rfl rfl rfl ?_
        refine ral rfl rfl rfl rfl rfl rfl ?_
        (apply rst rfl rfl rfl; (first | rfl | assumption | ((simp (disch := omega) only [app, upd, hp, if_pos, if_neg]); first | rfl | assumption)); rfl; rfl; rfl; rfl; rfl; (exact Nat.le_of_ble_eq_true rfl); rfl; rfl; rfl)
        refine rNil ?_
        refine qSeq ?_
        refine wSeq ?_
        refine wSeq ?_
        refine wRegion ?_
        refine raI rfl rfl rfl rfl rfl ?_
        refine rNil ?_
        refine qSeq ?_
        refine wBlock ?_
        refine wLoop ?_
        refine loopGo (fun (a : Nat × Nat × Nat) => [.str s, .unk, .ptr 0 0 0, .unk, .int .i64 (bt s 0), .ptr 2 0 0, .int .i64 a.1]) (fun (a : Nat × Nat × Nat) => hp [(0, blkB .nsl), (2, blkB (.view a.2.1 0 a.1)), (a.2.1, ⟨rowsV ((rds s a.1).map Rd.T), 3, 96⟩)]) (fun (a : Nat × Nat × Nat) => a.2.2) (fun (a : Nat × Nat × Nat) => (a.1 : Int) ≤ bt s 0 - 1 ∧ a.2.1 ≠ 0 ∧ a.2.1 ≠ 2 ∧ a.2.1 < a.2.2 ∧ 2 < a.2.2) (fun (a : Nat × Nat × Nat) => cnt s - a.1) (0, 1, 3) ?_ ?_ ?_ ?_ ?_
        · exact ⟨by dsimp only; omega, by decide, by decide, by decide, by decide⟩
        · (repeat first | exact LE.nil _ | refine LE.unk _ _ ?_ | refine LE.eq _ _ _ rfl ?_)
        · (repeat first | exact lessH0 | (refine lessHc ?_ ?_; (first | (first | rfl | assumption | ((simp (disch := omega) only [app, upd, hp, if_pos, if_neg]); first | rfl | assumption)) | (simp (disch := omega) only [app, upd, hp, if_pos, if_neg]; rw [rds_succ, List.map_append, rowsV_append]; rfl))))
        · exact Nat.le_refl _
        intro ⟨i, q, m⟩ hI ih
        dsimp only at hI ⊢
        refine lStep ?_
        refine wSeq ?_
        refine wSeq ?_
        refine wRegion ?_
        refine rmI rfl rfl rfl rfl rfl ?_
        refine rmI rfl rfl rfl rfl rfl ?_
        refine rsubF rfl rfl rfl ?_ ?_ rfl rfl rfl ?_
        · (first | omega | (have hc := pos_ne h1_1; omega) | (have hc := chunk_size s i (by omega); omega))
        · (first | omega | (have hc := pos_ne h1_1; omega) | (have hc := chunk_size s i (by omega); omega))
        refine rlt rfl rfl rfl rfl rfl rfl ?_ ?_ <;> intro h10_3
        · refine rNil ?_
          refine qSeq ?_
          refine wT rfl ?_
          refine wSkip ?_
          refine qSeq ?_
          refine wSeq ?_
          refine wBlock ?_
          refine wSeq ?_
          refine wRegion ?_
          refine rmS rfl rfl rfl rfl rfl ?_
          refine rmI rfl rfl rfl rfl rfl ?_
          refine rmulF rfl rfl rfl ?_ ?_ rfl rfl rfl ?_
          · (first | omega | (have hc := pos_ne h1_1; omega) | (have hc := chunk_size s i (by omega); omega))
          · (first | omega | (have hc := pos_ne h1_1; omega) | (have hc := chunk_size s i (by omega); omega))
          refine raddF rfl rfl rfl ?_ ?_ rfl rfl rfl ?_
          · (first | omega | (have hc := pos_ne h1_1; omega) | (have hc := chunk_size s i (by omega); omega))
          · (first | omega | (have hc := pos_ne h1_1; omega) | (have hc := chunk_size s i (by omega); omega))
          refine rmI rfl rfl rfl rfl rfl ?_
          refine rmulF rfl rfl rfl ?_ ?_ rfl rfl rfl ?_
          · (first | omega | (have hc := pos_ne h1_1; omega) | (have hc := chunk_size s i (by omega); omega))
          · (first | omega | (have hc := pos_ne h1_1; omega) | (have hc := chunk_size s i (by omega); omega))
          refine raddF rfl rfl rfl ?_ ?_ rfl rfl rfl ?_
          · (first | omega | (have hc := pos_ne h1_1; omega) | (have hc := chunk_size s i (by omega); omega))
          · (first | omega | (have hc := pos_ne h1_1; omega) | (have hc := chunk_size s i (by omega); omega))
          refine rsls rfl rfl rfl rfl rfl ?_ ?_ ?_ rfl rfl rfl ?_
          · (first | omega | (have hc := pos_ne h1_1; omega) | (have hc := chunk_size s i (by omega); omega))
          · (first | omega | (have hc := pos_ne h1_1; omega) | (have hc := chunk_size s i (by omega); omega))
          · (first | omega | (have hc := pos_ne h1_1; omega) | (have hc := chunk_size s i (by omega); omega))
          refine raS (p := chunk s i) rfl rfl rfl rfl rfl ?_
          refine rNil ?_
          refine qSeq ?_
          refine wDraw [0, 1, 0, 4, 12, 0, 32, 96, 0, 256, 1020, 2044, 4095, 8191, 16383] rfl (by decide +kernel) ?_
          refine dfa (off := 6) (s := 1) (r := false) rfl rfl rfl (Nat.succ_ne_zero _) rfl rfl rfl ?_
          (apply dlc (v := .view _ _ _) rfl rfl; (first | rfl | assumption | ((simp (disch := omega) only [app, upd, hp, if_pos, if_neg]); first | rfl | assumption)); rfl; rfl; rfl; rfl; rfl; rfl)
          refine dmS rfl rfl rfl rfl rfl ?_
          refine dixsK (i := 0) rfl rfl rfl rfl ?_ ?_ rfl rfl rfl rfl ?_
          · (first | omega | (have hc := pos_ne h1_1; omega) | (have hc := chunk_size s i (by omega); omega))
          · (first | omega | (have hc := pos_ne h1_1; omega) | (have hc := chunk_size s i (by omega); omega))
          refine dcvF rfl rfl rfl rfl ?_ ?_ rfl rfl rfl ?_
          · (first | exact bt_ge _ _ | exact bt_le _ _ | omega)
          · (first | exact bt_ge _ _ | exact bt_le _ _ | omega)
          refine dmS rfl rfl rfl rfl rfl ?_
          refine dsls rfl rfl rfl rfl rfl ?_ ?_ ?_ rfl rfl rfl ?_
          · (first | omega | (have hc := pos_ne h1_1; omega) | (have hc := chunk_size s i (by omega); omega))
          · (first | omega | (have hc := pos_ne h1_1; omega) | (have hc := chunk_size s i (by omega); omega))
          · (first | omega | (have hc := pos_ne h1_1; omega) | (have hc := chunk_size s i (by omega); omega))
          refine dcl (p54x (chunk s i) _ _ ?_ ?_ ?_) rfl rfl rfl rfl rfl rfl ?_
          · (first | omega | (focus (simp; done)) | (have hc := chunk_size s i (by omega); omega))
          · (first | omega | (focus (simp; done)) | (have hc := chunk_size s i (by omega); omega))
          · (first | omega | (focus (simp; done)) | (have hc := chunk_size s i (by omega); omega))
          refine dmS rfl rfl rfl rfl rfl ?_
          refine dsls rfl rfl rfl rfl rfl ?_ ?_ ?_ rfl rfl rfl ?_
          · (first | omega | (have hc := pos_ne h1_1; omega) | (have hc := chunk_size s i (by omega); omega))
          · (first | omega | (have hc := pos_ne h1_1; omega) | (have hc := chunk_size s i (by omega); omega))
          · (first | omega | (have hc := pos_ne h1_1; omega) | (have hc := chunk_size s i (by omega); omega))
          refine dbd (cs := [.int _ _, .int _ _, .str _]) rfl rfl rfl rfl rfl ?_
          refine dbs (es := [[.int _ _, .int _ _, .str _]]) rfl rfl rfl rfl (Nat.succ_ne_zero _) (Nat.le_of_ble_eq_true rfl) rfl rfl rfl rfl rfl ?_
          (apply dap (s' := 32) (es := [[.int _ _, .int _ _, .str _]]) rfl rfl; (first | rfl | assumption | ((simp (disch := omega) only [app, upd, hp, if_pos, if_neg]); first | rfl | assumption)); rfl; rfl; (focus (simp [rowsV_length, rds_length]; done)); rfl; rfl; exact (Nat.succ_ne_zero _); (first | rfl | (apply srcView rfl; (first | rfl | assumption | ((simp (disch := omega) only [app, upd, hp, if_pos, if_neg]); first | rfl | assumption)); (first | exact Nat.le_refl _ | omega); rfl)); (first | rfl | assumption | (focus (simp; done)) | (intro _ _; simp_all)); (first | omega | (focus (simp only [List.length_cons, List.length_nil]; omega)) | fail); (first | omega | (focus (simp only [List.length_cons, List.length_nil]; omega)) | fail); rfl; rfl; rfl)
          refine dfa (off := 6) (s := 1) (r := false) rfl rfl rfl (Nat.succ_ne_zero _) rfl rfl rfl ?_
          (apply dst rfl rfl rfl; (first | rfl | assumption | ((simp (disch := omega) only [app, upd, hp, if_pos, if_neg]); first | rfl | assumption)); rfl; rfl; rfl; rfl; rfl; (exact Nat.le_of_ble_eq_true rfl); rfl; rfl; rfl)
          refine dNilR 15 [3, 0, 3, 3, 0, 0, 0, 0, 0, 0, 0, 0, 0, 1, 0] [(1, 11)] rfl rfl (by decide +kernel) ?_ ?_
          · (simp [ClearL, ids]; try omega)
          refine qBlock ?_
          refine qSeq ?_
          refine wRegion ?_
          refine rmI rfl rfl rfl rfl rfl ?_
          refine raddF rfl rfl rfl ?_ ?_ rfl rfl rfl ?_
          · (first | omega | (have hc := pos_ne h1_1; omega) | (have hc := chunk_size s i (by omega); omega))
          · (first | omega | (have hc := pos_ne h1_1; omega) | (have hc := chunk_size s i (by omega); omega))
          refine raI rfl rfl rfl rfl rfl ?_
          refine rNil ?_
          refine qLoop ?_
          exact wlH (ih (i + 1, m + 1, m + 2) ⟨by dsimp only; omega, by dsimp only; omega, by dsimp only; omega, by dsimp only; omega, by dsimp only; omega⟩ (by dsimp only [cnt]; omega)) (by (repeat first | exact LE.nil _ | refine LE.unk _ _ ?_ | refine LE.eq _ _ _ rfl ?_)) (by (repeat first | exact lessH0 | (refine lessHc ?_ ?_; (first | (first | rfl | assumption | ((simp (disch := omega) only [app, upd, hp, if_pos, if_neg]); first | rfl | assumption)) | (simp (disch := omega) only [app, upd, hp, if_pos, if_neg]; rw [rds_succ, List.map_append, rowsV_append]; rfl))))) (by dsimp only; omega)
        · refine rNil ?_
          refine qSeq ?_
          refine wF rfl ?_
          refine wExit ?_
          refine qSeqX ?_
          refine qLoopX ?_
          refine qBlockX ?_
          refine qSeq ?_
          refine wSeq ?_
          refine wRegion ?_
          refine rmS rfl rfl rfl rfl rfl ?_
          refine rmI rfl rfl rfl rfl rfl ?_
          refine rsubF rfl rfl rfl ?_ ?_ rfl rfl rfl ?_
          · (first | omega | (have hc := pos_ne h1_1; omega) | (have hc := chunk_size s i (by omega); omega))
          · (first | omega | (have hc := pos_ne h1_1; omega) | (have hc := chunk_size s i (by omega); omega))
          refine rmulF rfl rfl rfl ?_ ?_ rfl rfl rfl ?_
          · (first | omega | (have hc := pos_ne h1_1; omega) | (have hc := chunk_size s i (by omega); omega))
          · (first | omega | (have hc := pos_ne h1_1; omega) | (have hc := chunk_size s i (by omega); omega))
          refine raddF rfl rfl rfl ?_ ?_ rfl rfl rfl ?_
          · (first | omega | (have hc := pos_ne h1_1; omega) | (have hc := chunk_size s i (by omega); omega))
          · (first | omega | (have hc := pos_ne h1_1; omega) | (have hc := chunk_size s i (by omega); omega))
          refine rsls rfl rfl rfl rfl rfl ?_ ?_ ?_ rfl rfl rfl ?_
          · (first | omega | (have hc := pos_ne h1_1; omega) | (have hc := chunk_size s i (by omega); omega))
          · (first | omega | (have hc := pos_ne h1_1; omega) | (have hc := chunk_size s i (by omega); omega))
          · (first | omega | (have hc := pos_ne h1_1; omega) | (have hc := chunk_size s i (by omega); omega))
          refine rcl (p55 (rqTail s)) rfl rfl rfl rfl rfl rfl ?_
          refine rmT rfl rfl rfl rfl rfl ?_
          refine rex rfl rfl rfl rfl rfl rfl ?_
          refine rexB rfl rfl rfl rfl rfl rfl ?_ ?_ <;> intro h14_9
          · refine ral rfl rfl rfl rfl rfl rfl ?_
            (apply rst rfl rfl rfl; (first | rfl | assumption | ((simp (disch := omega) only [app, upd, hp, if_pos, if_neg]); first | rfl | assumption)); rfl; rfl; rfl; rfl; rfl; (exact Nat.le_of_ble_eq_true rfl); rfl; rfl; rfl)
            refine raB rfl rfl rfl rfl rfl ?_
            refine rNil ?_
            refine qSeq ?_
            refine wSeq ?_
            refine wRegion ?_
            (apply rlr (vs := [.int _ _, .int _ _, .int _ _, .int _ _, .str _]) rfl rfl; (first | rfl | assumption | ((simp (disch := omega) only [app, upd, hp, if_pos, if_neg]); first | rfl | assumption)); rfl; rfl; (exact Nat.le_of_ble_eq_true rfl); rfl; rfl; rfl; rfl)
            refine rfa (off := 1) (s := 5) (r := true) rfl rfl rfl (Nat.succ_ne_zero _) rfl rfl rfl ?_
            (apply rst rfl rfl rfl; (first | rfl | assumption | ((simp (disch := omega) only [app, upd, hp, if_pos, if_neg]); first | rfl | assumption)); rfl; rfl; rfl; rfl; rfl; (exact Nat.le_of_ble_eq_true rfl); rfl; rfl; rfl)
            refine rNil ?_
            refine qSeq ?_
            refine wSeq ?_
            refine wDraw [0, 0, 2, 6, 14, 30, 31, 127] rfl (by decide +kernel) ?_
            (apply dlr (vs := [.bool _, .int _ _, .int _ _, .int _ _, .int _ _, .str _, _]) rfl rfl; (first | rfl | assumption | ((simp (disch := omega) only [app, upd, hp, if_pos, if_neg]); first | rfl | assumption)); rfl; rfl; (exact Nat.le_of_ble_eq_true rfl); rfl; rfl; rfl; rfl)
            refine dmB rfl rfl rfl rfl rfl ?_
            refine dmB rfl rfl rfl rfl rfl ?_
            (apply dlr (vs := [.bool _, .int _ _, .int _ _, .int _ _, .int _ _, .str _, _]) rfl rfl; (first | rfl | assumption | ((simp (disch := omega) only [app, upd, hp, if_pos, if_neg]); first | rfl | assumption)); rfl; rfl; (exact Nat.le_of_ble_eq_true rfl); rfl; rfl; rfl; rfl)
            apply dclSP [q] (p56 true (rqIf (rqTail s)) (rds s i)) rfl rfl rfl
            · (repeat first | exact SnapL.nil | exact SnapC.nil | refine SnapL.cons _ _ _ _ (SnapC.agg ?_) ?_ | refine SnapL.cons _ _ _ _ (.one _ _ ?_) ?_ | refine SnapC.cons _ _ _ _ ?_ ?_ | exact .int _ _ | exact .bool _ | exact .str _ | exact .nsl | exact .nslW | (apply snapView ((rds s i).map Rd.T) <;> first | (focus (simp [rds_length]; done)) | (first | rfl | assumption | ((simp (disch := omega) only [app, upd, hp, if_pos, if_neg]); first | rfl | assumption))))
            · rfl
            · rfl
            · rfl
            all_goals intro h16_4
            · refine dpk (e := true) rfl rfl rfl rfl rfl rfl ?_
              (apply dst rfl rfl rfl; (first | rfl | assumption | ((simp (disch := omega) only [app, upd, hp, if_pos, if_neg]); first | rfl | assumption)); rfl; rfl; rfl; rfl; rfl; (exact Nat.le_of_ble_eq_true rfl); rfl; rfl; rfl)
              refine daB rfl rfl rfl rfl rfl ?_
              refine dNilR 8 [0, 3, 0, 1, 1, 0, 0, 1] [] rfl rfl (by decide +kernel) trivial ?_
              refine qSeq ?_
              refine wRet ?_
              first
                | (have z : s.size = 0 := (by rw [h1_1]; rfl); rw [resB_0 z, decide_eq_false (fun h => h.1 z)]; exact fin rfl rfl)
                | (have z : s.size ≠ 0 := (by have := pos_ne h1_1; omega); rw [resB_1 z h4_1, decide_eq_true ⟨z, .inl ⟨h4_1, by omega⟩⟩]; refine finS (xs := [.agg [_, _, _, _, _, _, _], _]) [1] rfl ?_; (repeat first | exact SnapL.nil | exact SnapC.nil | refine SnapL.cons _ _ _ _ (SnapC.agg ?_) ?_ | refine SnapL.cons _ _ _ _ (.one _ _ ?_) ?_ | refine SnapC.cons _ _ _ _ ?_ ?_ | exact .int _ _ | exact .bool _ | exact .str _ | exact .nsl | exact .nslW | (apply snapView [] <;> first | (focus (simp [rds_length]; done)) | (first | rfl | assumption | ((simp (disch := omega) only [app, upd, hp, if_pos, if_neg]); first | rfl | assumption)))))
                | (have z : s.size ≠ 0 := (by have := pos_ne h1_1; omega); rw [resB_1 z h4_1, decide_eq_false (fun h => h.2.elim (fun e => h5_4 (by omega)) (fun e => e.1 h4_1))]; refine finS (xs := [.agg [_, _, _, _, _, _, _], _]) [1] rfl ?_; (repeat first | exact SnapL.nil | exact SnapC.nil | refine SnapL.cons _ _ _ _ (SnapC.agg ?_) ?_ | refine SnapL.cons _ _ _ _ (.one _ _ ?_) ?_ | refine SnapC.cons _ _ _ _ ?_ ?_ | exact .int _ _ | exact .bool _ | exact .str _ | exact .nsl | exact .nslW | (apply snapView [] <;> first | (focus (simp [rds_length]; done)) | (first | rfl | assumption | ((simp (disch := omega) only [app, upd, hp, if_pos, if_neg]); first | rfl | assumption)))))
                | (have z : s.size ≠ 0 := (by have := pos_ne h1_1; omega); rw [resB_2 z h4_1 h6_6, decide_eq_false (fun h => h.2.elim (fun e => h4_1 e.1) (fun e => (by omega)))]; exact fin rfl rfl)
                | (have z : s.size ≠ 0 := (by have := pos_ne h1_1; omega); obtain rfl : i = cnt s := (by unfold cnt; omega); have hq := of_decide_eq_true h14_9; have eq : rqIf (rqTail s) = rqOf (rqTail s) := if_pos hq.1; rw [resB_3 z h4_1 h6_6, decide_eq_true ⟨z, .inr ⟨h4_1, by omega, hq.1, by rw [← eq]; exact h16_4⟩⟩]; refine finS (xs := [.agg [_, _, _, _, _, _, _], _]) [q] rfl ?_; (repeat first | exact SnapL.nil | exact SnapC.nil | refine SnapL.cons _ _ _ _ (SnapC.agg ?_) ?_ | refine SnapL.cons _ _ _ _ (.one _ _ ?_) ?_ | refine SnapC.cons _ _ _ _ ?_ ?_ | exact .int _ _ | exact .bool _ | exact .str _ | exact .nsl | exact .nslW | (apply snapView ((rds s (cnt s)).map Rd.T) <;> first | (focus (simp [rds_length]; done)) | (first | rfl | assumption | ((simp (disch := omega) only [app, upd, hp, if_pos, if_neg]); first | rfl | assumption)))))
                | (have z : s.size ≠ 0 := (by have := pos_ne h1_1; omega); obtain rfl : i = cnt s := (by unfold cnt; omega); rw [resB_3 z h4_1 h6_6, decide_eq_false (fun h => h.2.elim (fun e => h4_1 e.1) (fun e => (by first | exact of_decide_eq_false h14_9 ⟨e.2.2.1, e.2.2.2.1⟩ | (have eq : rqIf (rqTail s) = rqOf (rqTail s) := if_pos e.2.2.1; rw [eq] at h16_4; exact h16_4 e.2.2.2))))]; refine finS (xs := [.agg [_, _, _, _, _, _, _], _]) [q] rfl ?_; (repeat first | exact SnapL.nil | exact SnapC.nil | refine SnapL.cons _ _ _ _ (SnapC.agg ?_) ?_ | refine SnapL.cons _ _ _ _ (.one _ _ ?_) ?_ | refine SnapC.cons _ _ _ _ ?_ ?_ | exact .int _ _ | exact .bool _ | exact .str _ | exact .nsl | exact .nslW | (apply snapView ((rds s (cnt s)).map Rd.T) <;> first | (focus (simp [rds_length]; done)) | (first | rfl | assumption | ((simp (disch := omega) only [app, upd, hp, if_pos, if_neg]); first | rfl | assumption)))))
            · refine dpk (e := false) rfl rfl rfl rfl rfl rfl ?_
              (apply dst rfl rfl rfl; (first | rfl | assumption | ((simp (disch := omega) only [app, upd, hp, if_pos, if_neg]); first | rfl | assumption)); rfl; rfl; rfl; rfl; rfl; (exact Nat.le_of_ble_eq_true rfl); rfl; rfl; rfl)
              refine daB rfl rfl rfl rfl rfl ?_
              refine dNilR 8 [0, 3, 0, 1, 1, 0, 0, 1] [] rfl rfl (by decide +kernel) trivial ?_
              refine qSeq ?_
              refine wRet ?_
              first
                | (have z : s.size = 0 := (by rw [h1_1]; rfl); rw [resB_0 z, decide_eq_false (fun h => h.1 z)]; exact fin rfl rfl)
                | (have z : s.size ≠ 0 := (by have := pos_ne h1_1; omega); rw [resB_1 z h4_1, decide_eq_true ⟨z, .inl ⟨h4_1, by omega⟩⟩]; refine finS (xs := [.agg [_, _, _, _, _, _, _], _]) [1] rfl ?_; (repeat first | exact SnapL.nil | exact SnapC.nil | refine SnapL.cons _ _ _ _ (SnapC.agg ?_) ?_ | refine SnapL.cons _ _ _ _ (.one _ _ ?_) ?_ | refine SnapC.cons _ _ _ _ ?_ ?_ | exact .int _ _ | exact .bool _ | exact .str _ | exact .nsl | exact .nslW | (apply snapView [] <;> first | (focus (simp [rds_length]; done)) | (first | rfl | assumption | ((simp (disch := omega) only [app, upd, hp, if_pos, if_neg]); first | rfl | assumption)))))
                | (have z : s.size ≠ 0 := (by have := pos_ne h1_1; omega); rw [resB_1 z h4_1, decide_eq_false (fun h => h.2.elim (fun e => h5_4 (by omega)) (fun e => e.1 h4_1))]; refine finS (xs := [.agg [_, _, _, _, _, _, _], _]) [1] rfl ?_; (repeat first | exact SnapL.nil | exact SnapC.nil | refine SnapL.cons _ _ _ _ (SnapC.agg ?_) ?_ | refine SnapL.cons _ _ _ _ (.one _ _ ?_) ?_ | refine SnapC.cons _ _ _ _ ?_ ?_ | exact .int _ _ | exact .bool _ | exact .str _ | exact .nsl | exact .nslW | (apply snapView [] <;> first | (focus (simp [rds_length]; done)) | (first | rfl | assumption | ((simp (disch := omega) only [app, upd, hp, if_pos, if_neg]); first | rfl | assumption)))))
                | (have z : s.size ≠ 0 := (by have := pos_ne h1_1; omega); rw [resB_2 z h4_1 h6_6, decide_eq_false (fun h => h.2.elim (fun e => h4_1 e.1) (fun e => (by omega)))]; exact fin rfl rfl)
                | (have z : s.size ≠ 0 := (by have := pos_ne h1_1; omega); obtain rfl : i = cnt s := (by unfold cnt; omega); have hq := of_decide_eq_true h14_9; have eq : rqIf (rqTail s) = rqOf (rqTail s) := if_pos hq.1; rw [resB_3 z h4_1 h6_6, decide_eq_true ⟨z, .inr ⟨h4_1, by omega, hq.1, by rw [← eq]; exact h16_4⟩⟩]; refine finS (xs := [.agg [_, _, _, _, _, _, _], _]) [q] rfl ?_; (repeat first | exact SnapL.nil | exact SnapC.nil | refine SnapL.cons _ _ _ _ (SnapC.agg ?_) ?_ | refine SnapL.cons _ _ _ _ (.one _ _ ?_) ?_ | refine SnapC.cons _ _ _ _ ?_ ?_ | exact .int _ _ | exact .bool _ | exact .str _ | exact .nsl | exact .nslW | (apply snapView ((rds s (cnt s)).map Rd.T) <;> first | (focus (simp [rds_length]; done)) | (first | rfl | assumption | ((simp (disch := omega) only [app, upd, hp, if_pos, if_neg]); first | rfl | assumption)))))
                | (have z : s.size ≠ 0 := (by have := pos_ne h1_1; omega); obtain rfl : i = cnt s := (by unfold cnt; omega); rw [resB_3 z h4_1 h6_6, decide_eq_false (fun h => h.2.elim (fun e => h4_1 e.1) (fun e => (by first | exact of_decide_eq_false h14_9 ⟨e.2.2.1, e.2.2.2.1⟩ | (have eq : rqIf (rqTail s) = rqOf (rqTail s) := if_pos e.2.2.1; rw [eq] at h16_4; exact h16_4 e.2.2.2))))]; refine finS (xs := [.agg [_, _, _, _, _, _, _], _]) [q] rfl ?_; (repeat first | exact SnapL.nil | exact SnapC.nil | refine SnapL.cons _ _ _ _ (SnapC.agg ?_) ?_ | refine SnapL.cons _ _ _ _ (.one _ _ ?_) ?_ | refine SnapC.cons _ _ _ _ ?_ ?_ | exact .int _ _ | exact .bool _ | exact .str _ | exact .nsl | exact .nslW | (apply snapView ((rds s (cnt s)).map Rd.T) <;> first | (focus (simp [rds_length]; done)) | (first | rfl | assumption | ((simp (disch := omega) only [app, upd, hp, if_pos, if_neg]); first | rfl | assumption)))))
          · refine ral rfl rfl rfl rfl rfl rfl ?_
            (apply rst rfl rfl rfl; (first | rfl | assumption | ((simp (disch := omega) only [app, upd, hp, if_pos, if_neg]); first | rfl | assumption)); rfl; rfl; rfl; rfl; rfl; (exact Nat.le_of_ble_eq_true rfl); rfl; rfl; rfl)
            refine raB rfl rfl rfl rfl rfl ?_
            refine rNil ?_
            refine qSeq ?_
            refine wSeq ?_
            refine wRegion ?_
            (apply rlr (vs := [.int _ _, .int _ _, .int _ _, .int _ _, .str _]) rfl rfl; (first | rfl | assumption | ((simp (disch := omega) only [app, upd, hp, if_pos, if_neg]); first | rfl | assumption)); rfl; rfl; (exact Nat.le_of_ble_eq_true rfl); rfl; rfl; rfl; rfl)
            refine rfa (off := 1) (s := 5) (r := true) rfl rfl rfl (Nat.succ_ne_zero _) rfl rfl rfl ?_
            (apply rst rfl rfl rfl; (first | rfl | assumption | ((simp (disch := omega) only [app, upd, hp, if_pos, if_neg]); first | rfl | assumption)); rfl; rfl; rfl; rfl; rfl; (exact Nat.le_of_ble_eq_true rfl); rfl; rfl; rfl)
            refine rNil ?_
            refine qSeq ?_
            refine wSeq ?_
            refine wDraw [0, 0, 2, 6, 14, 30, 31, 127] rfl (by decide +kernel) ?_
            (apply dlr (vs := [.bool _, .int _ _, .int _ _, .int _ _, .int _ _, .str _, _]) rfl rfl; (first | rfl | assumption | ((simp (disch := omega) only [app, upd, hp, if_pos, if_neg]); first | rfl | assumption)); rfl; rfl; (exact Nat.le_of_ble_eq_true rfl); rfl; rfl; rfl; rfl)
            refine dmB rfl rfl rfl rfl rfl ?_
            refine dmB rfl rfl rfl rfl rfl ?_
            refine dSkip rfl rfl rfl ?_
            refine dSkip rfl rfl rfl ?_
            refine dpk (e := false) rfl rfl rfl rfl rfl rfl ?_
            (apply dst rfl rfl rfl; (first | rfl | assumption | ((simp (disch := omega) only [app, upd, hp, if_pos, if_neg]); first | rfl | assumption)); rfl; rfl; rfl; rfl; rfl; (exact Nat.le_of_ble_eq_true rfl); rfl; rfl; rfl)
            refine daB rfl rfl rfl rfl rfl ?_
            refine dNilR 8 [0, 3, 0, 0, 0, 0, 0, 1] [] rfl rfl (by decide +kernel) trivial ?_
            refine qSeq ?_
            refine wRet ?_
            first
              | (have z : s.size = 0 := (by rw [h1_1]; rfl); rw [resB_0 z, decide_eq_false (fun h => h.1 z)]; exact fin rfl rfl)
              | (have z : s.size ≠ 0 := (by have := pos_ne h1_1; omega); rw [resB_1 z h4_1, decide_eq_true ⟨z, .inl ⟨h4_1, by omega⟩⟩]; refine finS (xs := [.agg [_, _, _, _, _, _, _], _]) [1] rfl ?_; (repeat first | exact SnapL.nil | exact SnapC.nil | refine SnapL.cons _ _ _ _ (SnapC.agg ?_) ?_ | refine SnapL.cons _ _ _ _ (.one _ _ ?_) ?_ | refine SnapC.cons _ _ _ _ ?_ ?_ | exact .int _ _ | exact .bool _ | exact .str _ | exact .nsl | exact .nslW | (apply snapView [] <;> first | (focus (simp [rds_length]; done)) | (first | rfl | assumption | ((simp (disch := omega) only [app, upd, hp, if_pos, if_neg]); first | rfl | assumption)))))
              | (have z : s.size ≠ 0 := (by have := pos_ne h1_1; omega); rw [resB_1 z h4_1, decide_eq_false (fun h => h.2.elim (fun e => h5_4 (by omega)) (fun e => e.1 h4_1))]; refine finS (xs := [.agg [_, _, _, _, _, _, _], _]) [1] rfl ?_; (repeat first | exact SnapL.nil | exact SnapC.nil | refine SnapL.cons _ _ _ _ (SnapC.agg ?_) ?_ | refine SnapL.cons _ _ _ _ (.one _ _ ?_) ?_ | refine SnapC.cons _ _ _ _ ?_ ?_ | exact .int _ _ | exact .bool _ | exact .str _ | exact .nsl | exact .nslW | (apply snapView [] <;> first | (focus (simp [rds_length]; done)) | (first | rfl | assumption | ((simp (disch := omega) only [app, upd, hp, if_pos, if_neg]); first | rfl | assumption)))))
              | (have z : s.size ≠ 0 := (by have := pos_ne h1_1; omega); rw [resB_2 z h4_1 h6_6, decide_eq_false (fun h => h.2.elim (fun e => h4_1 e.1) (fun e => (by omega)))]; exact fin rfl rfl)
              | (have z : s.size ≠ 0 := (by have := pos_ne h1_1; omega); obtain rfl : i = cnt s := (by unfold cnt; omega); have hq := of_decide_eq_true h14_9; have eq : rqIf (rqTail s) = rqOf (rqTail s) := if_pos hq.1; rw [resB_3 z h4_1 h6_6, decide_eq_true ⟨z, .inr ⟨h4_1, by omega, hq.1, by rw [← eq]; exact h16_4⟩⟩]; refine finS (xs := [.agg [_, _, _, _, _, _, _], _]) [q] rfl ?_; (repeat first | exact SnapL.nil | exact SnapC.nil | refine SnapL.cons _ _ _ _ (SnapC.agg ?_) ?_ | refine SnapL.cons _ _ _ _ (.one _ _ ?_) ?_ | refine SnapC.cons _ _ _ _ ?_ ?_ | exact .int _ _ | exact .bool _ | exact .str _ | exact .nsl | exact .nslW | (apply snapView ((rds s (cnt s)).map Rd.T) <;> first | (focus (simp [rds_length]; done)) | (first | rfl | assumption | ((simp (disch := omega) only [app, upd, hp, if_pos, if_neg]); first | rfl | assumption)))))
              | (have z : s.size ≠ 0 := (by have := pos_ne h1_1; omega); obtain rfl : i = cnt s := (by unfold cnt; omega); rw [resB_3 z h4_1 h6_6, decide_eq_false (fun h => h.2.elim (fun e => h4_1 e.1) (fun e => (by first | exact of_decide_eq_false h14_9 ⟨e.2.2.1, e.2.2.2.1⟩ | (have eq : rqIf (rqTail s) = rqOf (rqTail s) := if_pos e.2.2.1; rw [eq] at h16_4; exact h16_4 e.2.2.2))))]; refine finS (xs := [.agg [_, _, _, _, _, _, _], _]) [q] rfl ?_; (repeat first | exact SnapL.nil | exact SnapC.nil | refine SnapL.cons _ _ _ _ (SnapC.agg ?_) ?_ | refine SnapL.cons _ _ _ _ (.one _ _ ?_) ?_ | refine SnapC.cons _ _ _ _ ?_ ?_ | exact .int _ _ | exact .bool _ | exact .str _ | exact .nsl | exact .nslW | (apply snapView ((rds s (cnt s)).map Rd.T) <;> first | (focus (simp [rds_length]; done)) | (first | rfl | assumption | ((simp (disch := omega) only [app, upd, hp, if_pos, if_neg]); first | rfl | assumption)))))
end Go.Proofs.Ytnkpjlpappmccaa
