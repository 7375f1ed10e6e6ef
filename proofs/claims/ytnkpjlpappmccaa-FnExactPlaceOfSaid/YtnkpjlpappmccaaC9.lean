import Derived.Test.YtnkpjlpappmccaaC8
namespace Go.Proofs.Ytnkpjlpappmccaa
open Go.V
set_option linter.unusedVariables false
set_option linter.unusedSimpArgs false
set_option maxRecDepth 20000
set_option maxHeartbeats 4000000

def rdS (x : RS) : Rd × RS := (⟨(numS x 1).1, (numS (numS x 1).2 4).1, (takeS (numS (numS x 1).2 4).2 8).1⟩, (takeS (numS (numS x 1).2 4).2 8).2)
def rdsS (x : RS) : Nat → List Rd × RS
  | 0 => ([], x)
  | i + 1 => ((rdsS x i).1 ++ [(rdS (rdsS x i).2).1], (rdS (rdsS x i).2).2)
theorem rdsS_length (x : RS) (i : Nat) : (rdsS x i).1.length = i := by
  induction i with
  | zero => rfl
  | succ i ih => simp [rdsS, ih]
def x1 (s : ByteArray) : RS := (numS (s, false) 1).2
def cI (s : ByteArray) : Int := (numS (s, false) 1).1 - 1
def rqI (s : ByteArray) : Rq := (reqS (rdsS (x1 s) (cI s).toNat).2).1
def rsI (s : ByteArray) : List Rd := (rdsS (x1 s) (cI s).toNat).1
def okR (s : ByteArray) : Prop := 0 ≤ cI s ∧ cI s ≤ 7 ∧ doneS (reqS (rdsS (x1 s) (cI s).toNat).2).2 ∧ btOK (rqI s) (rsI s)
def okI (s : ByteArray) : Prop := s = ⟨#[0]⟩ ∨ (s ≠ ⟨#[0]⟩ ∧ okR s)
noncomputable instance (s : ByteArray) : Decidable (okR s) := Classical.propDecidable _
noncomputable instance (s : ByteArray) : Decidable (okI s) := Classical.propDecidable _
noncomputable def resI (s : ByteArray) : List T :=
  if s = ⟨#[0]⟩ then btT true Rq0 .nsl else if okR s then btT false (rqI s) (if cI s = 0 then .nsl else .sl true ((rsI s).map Rd.T)) else btT false Rq0 .nsl
theorem resI_0 {s : ByteArray} (h : s = ⟨#[0]⟩) : resI s = btT true Rq0 .nsl := by simp [resI, h]
theorem resI_1 {s : ByteArray} (h : ¬ s = ⟨#[0]⟩) (h1 : ¬ okR s) : resI s = btT false Rq0 .nsl := by simp [resI, h, h1]
theorem resI_2 {s : ByteArray} (h : ¬ s = ⟨#[0]⟩) (h1 : okR s) (h2 : cI s = 0) : resI s = btT false (rqI s) .nsl := by simp [resI, h, h1, h2]
theorem resI_3 {s : ByteArray} (h : ¬ s = ⟨#[0]⟩) (h1 : okR s) (h2 : cI s ≠ 0) : resI s = btT false (rqI s) (.sl true ((rsI s).map Rd.T)) := by simp [resI, h, h1, h2]
theorem okI_1 {s : ByteArray} (h : ¬ s = ⟨#[0]⟩) (h1 : ¬ okR s) : ¬ okI s := fun e => e.elim h fun e => h1 e.2
theorem okI_2 {s : ByteArray} (h : ¬ s = ⟨#[0]⟩) (h1 : okR s) : okI s := .inr ⟨h, h1⟩

theorem rdsS_succ (x : RS) (i : Nat) : (rdsS x (i + 1)).1 = (rdsS x i).1 ++ [(rdS (rdsS x i).2).1] := rfl

theorem p31 (s : ByteArray) : Pure En 31 [.one (.str s)] [.agg (resI s), .one (.bool (decide (okI s)))] := by
  have b0 := take_size (s, false) 1 (by omega)
  have b1 := be_0 (takeS (s, false) 1).1 0 (takeS (s, false) 1).1.size
  have b2 := be_3 (takeS (s, false) 1).1 0 (takeS (s, false) 1).1.size (by omega)
  refine Pure.of_wp Try.func31 rfl (Nat.le_of_ble_eq_true rfl) ?_
  refine wSeq ?_
  refine wRegion ?_
  refine ral rfl rfl rfl rfl rfl rfl ?_
  refine raB rfl rfl rfl rfl rfl ?_
  refine rNil ?_
  refine qSeq ?_
  refine wSeq ?_
  refine wSeq ?_
  refine wRegion ?_
  refine rmS rfl rfl rfl rfl rfl ?_
  refine rseq rfl rfl rfl rfl rfl rfl ?_ ?_ <;> intro h1_1
  · refine rNil ?_
    refine qSeq ?_
    refine wT rfl ?_
    refine wSeq ?_
    refine wRegion ?_
    refine rbd (cs := [.bool _, .int _ _, .int _ _, .int _ _, .int _ _, .str _, _]) rfl rfl rfl rfl rfl ?_
    (apply rst rfl rfl rfl; (first | rfl | assumption | ((simp (disch := omega) only [app, upd, hp, if_pos, if_neg]); first | rfl | assumption)); rfl; rfl; rfl; rfl; rfl; (exact Nat.le_of_ble_eq_true rfl); rfl; rfl; rfl)
    refine raB rfl rfl rfl rfl rfl ?_
    refine rNil ?_
    refine qSeq ?_
    refine wRet ?_
    refine qSeqR ?_
    rw [resI_0 h1_1, decide_eq_true (show okI s from .inl h1_1)]; exact fin rfl rfl
  · refine rNil ?_
    refine qSeq ?_
    refine wF rfl ?_
    refine wSkip ?_
    refine qSeq ?_
    refine wSeq ?_
    refine wRegion ?_
    refine rmS rfl rfl rfl rfl rfl ?_
    refine rbd (cs := [.str _, .bool _]) rfl rfl rfl rfl rfl ?_
    refine rbx (u := .agg [.str _, .bool _]) rfl rfl rfl rfl rfl rfl rfl ?_
    refine raP rfl rfl rfl rfl rfl ?_
    refine rNil ?_
    refine qSeq ?_
    refine wSeq ?_
    refine wRegion ?_
    refine rmP rfl rfl rfl rfl rfl ?_
    refine rop (o57 (s, false) 1 ?_ ?_ ?_ ?_) rfl rfl rfl rfl rfl rfl ?_
    · (first | omega | (first | rfl | assumption | ((simp (disch := omega) only [app, upd, hp, if_pos, if_neg]); first | rfl | assumption)) | (first | omega | assumption | (focus (simp; omega))))
    · (first | omega | (first | rfl | assumption | ((simp (disch := omega) only [app, upd, hp, if_pos, if_neg]); first | rfl | assumption)) | (first | omega | assumption | (focus (simp; omega))))
    · (first | omega | (first | rfl | assumption | ((simp (disch := omega) only [app, upd, hp, if_pos, if_neg]); first | rfl | assumption)) | (first | omega | assumption | (focus (simp; omega))))
    · (first | omega | (first | rfl | assumption | ((simp (disch := omega) only [app, upd, hp, if_pos, if_neg]); first | rfl | assumption)) | (first | omega | assumption | (focus (simp; omega))))
    refine rsubF rfl rfl rfl ?_ ?_ rfl rfl rfl ?_
    · (first | omega | assumption | (focus (simp; omega)))
    · (first | omega | assumption | (focus (simp; omega)))
    refine raI (a := cI s) rfl rfl rfl rfl rfl ?_
    refine rNil ?_
    refine qSeq ?_
    refine wSeq ?_
    refine wSeq ?_
    refine wRegion ?_
    refine rmI rfl rfl rfl rfl rfl ?_
    refine rgt rfl rfl rfl rfl rfl rfl ?_ ?_ <;> intro h5_1
    · refine rNil ?_
      refine qSeq ?_
      refine wT rfl ?_
      refine wSeq ?_
      refine wRegion ?_
      refine rbd (cs := [.bool _, .int _ _, .int _ _, .int _ _, .int _ _, .str _, _]) rfl rfl rfl rfl rfl ?_
      (apply rst rfl rfl rfl; (first | rfl | assumption | ((simp (disch := omega) only [app, upd, hp, if_pos, if_neg]); first | rfl | assumption)); rfl; rfl; rfl; rfl; rfl; (exact Nat.le_of_ble_eq_true rfl); rfl; rfl; rfl)
      refine raB rfl rfl rfl rfl rfl ?_
      refine rNil ?_
      refine qSeq ?_
      refine wRet ?_
      refine qSeqR ?_
      have nk : ¬ okR s := fun e => (by have := e.2.1; omega)
      rw [resI_1 h1_1 nk, decide_eq_false (okI_1 h1_1 nk)]; exact fin rfl rfl
    · refine rNil ?_
      refine qSeq ?_
      refine wF rfl ?_
      refine wSkip ?_
      refine qSeq ?_
      refine wSeq ?_
      refine wRegion ?_
      refine ral rfl rfl rfl rfl rfl rfl ?_
      refine rNil ?_
      refine qSeq ?_
      refine wSeq ?_
      refine wSeq ?_
      refine wRegion ?_
      refine rmI rfl rfl rfl rfl rfl ?_
      refine rmax rfl rfl rfl rfl rfl rfl ?_
      refine rmI rfl rfl rfl rfl rfl ?_
      refine rNil ?_
      refine qSeq ?_
      refine wBlock ?_
      refine wLoop ?_
      refine loopGo (fun (a : Nat × Nat × Nat) => [.str s, .unk, .ptr 0 0 0, .unk, .ptr 1 0 0, .int .i64 (cI s), .ptr 3 0 0, .unk, .unk, .unk, .unk, .unk, .unk, .unk, .unk, .unk, .unk, .unk, .unk, .unk, .int .i64 (max (cI s) 0), .int .i64 a.1]) (fun (a : Nat × Nat × Nat) => if a.1 = 0 then hp [(0, blkB .nsl), (1, rdrB (rdsS (x1 s) a.1).2), (3, blkB .nsl)] else hp [(0, blkB .nsl), (1, rdrB (rdsS (x1 s) a.1).2), (3, blkB (.view a.2.1 0 a.1)), (a.2.1, ⟨rowsV ((rdsS (x1 s) a.1).1.map Rd.T), 3, 96⟩)]) (fun (a : Nat × Nat × Nat) => a.2.2) (fun (a : Nat × Nat × Nat) => (a.1 : Int) ≤ max (cI s) 0 ∧ 3 < a.2.1 ∧ a.2.1 < a.2.2) (fun (a : Nat × Nat × Nat) => (cI s).toNat - a.1) (0, 4, 5) ?_ ?_ ?_ ?_ ?_
      · exact ⟨by dsimp only; omega, by decide, by decide⟩
      · (repeat first | exact LE.nil _ | refine LE.unk _ _ ?_ | refine LE.eq _ _ _ rfl ?_)
      · refine (show LessH (hp [(0, blkB .nsl), (1, rdrB (rdsS (x1 s) 0).2), (3, blkB .nsl)]) _ from ?_)
        (repeat first | exact lessH0 | (refine lessHc ?_ ?_; rfl))
      · decide
      intro ⟨i, q, m⟩ hI ih
      dsimp only at hI ⊢
      by_cases hi0 : i = 0
      · skip
        rw [if_pos hi0]
        have hi1 : (rdsS (x1 s) i).1.map Rd.T = [] := by rw [hi0]; rfl
        refine lStep ?_
        refine wSeq ?_
        refine wRegion ?_
        refine rlt rfl rfl rfl rfl rfl rfl ?_ ?_ <;> intro h9_0
        · refine rNil ?_
          refine qSeq ?_
          refine wSeq ?_
          refine wT rfl ?_
          refine wSkip ?_
          refine qSeq ?_
          refine wSeq ?_
          refine wBlock ?_
          refine wDraw [0, 1, 0, 4, 0, 28, 0, 124, 252, 508, 1023, 2047, 4095] rfl (by decide +kernel) ?_
          refine dfa (off := 6) (s := 1) (r := false) rfl rfl rfl (Nat.succ_ne_zero _) rfl rfl rfl ?_
          (apply dlc (v := .nsl) rfl rfl; (first | rfl | assumption | ((simp (disch := omega) only [app, upd, hp, if_pos, if_neg]); first | rfl | assumption)); rfl; rfl; rfl; rfl; rfl; rfl)
          refine dmP rfl rfl rfl rfl rfl ?_
          refine dop (o57 (rdsS (x1 s) i).2 1 ?_ ?_ ?_ ?_) rfl rfl rfl rfl rfl rfl ?_
          · (first | omega | (first | rfl | assumption | ((simp (disch := omega) only [app, upd, hp, if_pos, if_neg]); first | rfl | assumption)) | (first | omega | assumption | (focus (simp; omega))))
          · (first | omega | (first | rfl | assumption | ((simp (disch := omega) only [app, upd, hp, if_pos, if_neg]); first | rfl | assumption)) | (first | omega | assumption | (focus (simp; omega))))
          · (first | omega | (first | rfl | assumption | ((simp (disch := omega) only [app, upd, hp, if_pos, if_neg]); first | rfl | assumption)) | (first | omega | assumption | (focus (simp; omega))))
          · (first | omega | (first | rfl | assumption | ((simp (disch := omega) only [app, upd, hp, if_pos, if_neg]); first | rfl | assumption)) | (first | omega | assumption | (focus (simp; omega))))
          refine dmP rfl rfl rfl rfl rfl ?_
          refine dop (o57 (numS (rdsS (x1 s) i).2 1).2 4 ?_ ?_ ?_ ?_) rfl rfl rfl rfl rfl rfl ?_
          · (first | omega | (first | rfl | assumption | ((simp (disch := omega) only [app, upd, hp, if_pos, if_neg]); first | rfl | assumption)) | (first | omega | assumption | (focus (simp; omega))))
          · (first | omega | (first | rfl | assumption | ((simp (disch := omega) only [app, upd, hp, if_pos, if_neg]); first | rfl | assumption)) | (first | omega | assumption | (focus (simp; omega))))
          · (first | omega | (first | rfl | assumption | ((simp (disch := omega) only [app, upd, hp, if_pos, if_neg]); first | rfl | assumption)) | (first | omega | assumption | (focus (simp; omega))))
          · (first | omega | (first | rfl | assumption | ((simp (disch := omega) only [app, upd, hp, if_pos, if_neg]); first | rfl | assumption)) | (first | omega | assumption | (focus (simp; omega))))
          refine dmP rfl rfl rfl rfl rfl ?_
          refine dop (o58 (numS (numS (rdsS (x1 s) i).2 1).2 4).2 8 ?_ ?_) rfl rfl rfl rfl rfl rfl ?_
          · (first | omega | (first | rfl | assumption | ((simp (disch := omega) only [app, upd, hp, if_pos, if_neg]); first | rfl | assumption)) | (first | omega | assumption | (focus (simp; omega))))
          · (first | omega | (first | rfl | assumption | ((simp (disch := omega) only [app, upd, hp, if_pos, if_neg]); first | rfl | assumption)) | (first | omega | assumption | (focus (simp; omega))))
          refine dbd (cs := [.int _ _, .int _ _, .str _]) rfl rfl rfl rfl rfl ?_
          refine dbs (es := [[.int _ _, .int _ _, .str _]]) rfl rfl rfl rfl (Nat.succ_ne_zero _) (Nat.le_of_ble_eq_true rfl) rfl rfl rfl rfl rfl ?_
          (apply dan (s' := 32) (es := [[.int _ _, .int _ _, .str _]]) rfl rfl rfl rfl (Nat.succ_ne_zero _); (first | rfl | (apply srcView rfl; (first | rfl | assumption | ((simp (disch := omega) only [app, upd, hp, if_pos, if_neg]); first | rfl | assumption)); (first | exact Nat.le_refl _ | omega); rfl)); (first | rfl | assumption | (focus (simp; done)) | (intro _ _; simp_all)); (first | omega | (focus (simp only [List.length_cons, List.length_nil]; omega)) | fail); (first | omega | (focus (simp only [List.length_cons, List.length_nil]; omega)) | fail); (first | omega | (focus (simp only [List.length_cons, List.length_nil]; omega)) | fail); rfl; rfl; rfl)
          refine dfa (off := 6) (s := 1) (r := false) rfl rfl rfl (Nat.succ_ne_zero _) rfl rfl rfl ?_
          (apply dst rfl rfl rfl; (first | rfl | assumption | ((simp (disch := omega) only [app, upd, hp, if_pos, if_neg]); first | rfl | assumption)); rfl; rfl; rfl; rfl; rfl; (exact Nat.le_of_ble_eq_true rfl); rfl; rfl; rfl)
          refine dNilR 13 [3, 0, 3, 3, 0, 3, 0, 3, 0, 3, 0, 1, 0] [(1, 3), (1, 5), (1, 7), (1, 9)] rfl rfl (by decide +kernel) ?_ ?_
          · (simp [ClearL, ids]; try omega)
          refine qBlock ?_
          refine qSeq ?_
          refine wRegion ?_
          refine raddF rfl rfl rfl ?_ ?_ rfl rfl rfl ?_
          · (first | omega | assumption | (focus (simp; omega)))
          · (first | omega | assumption | (focus (simp; omega)))
          refine rmI rfl rfl rfl rfl rfl ?_
          refine rNil ?_
          refine qLoop ?_
          subst hi0
          exact wlH (h' := hp [(0, blkB .nsl), (1, rdrB (rdsS (x1 s) 1).2), (3, blkB (.view (m + 3) 0 1)), (m + 3, ⟨rowsV ((rdsS (x1 s) 1).1.map Rd.T), 3, 96⟩)]) (ih (1, m + 3, m + 4) ⟨by dsimp only; omega, by dsimp only; omega, by dsimp only; omega⟩ (by dsimp only; omega)) (by (repeat first | exact LE.nil _ | refine LE.unk _ _ ?_ | refine LE.eq _ _ _ rfl ?_)) (by (repeat first | exact lessH0 | (refine lessHc ?_ ?_; (first | (first | rfl | assumption | ((simp (disch := omega) only [app, upd, hp, if_pos, if_neg]); first | rfl | assumption)) | (simp (disch := omega) only [app, upd, hp, if_pos, if_neg]; rw [rdsS_succ, List.map_append, rowsV_append]; rfl))))) (by dsimp only; omega)
        · refine rNil ?_
          refine qSeq ?_
          refine wSeq ?_
          refine wF rfl ?_
          refine wExit ?_
          refine qSeqX ?_
          refine qLoopX ?_
          refine qBlockX ?_
          refine qSeq ?_
          refine wSeq ?_
          refine wRegion ?_
          refine rmP rfl rfl rfl rfl rfl ?_
          refine rop (o59 (rdsS (x1 s) i).2 ?_ ?_) rfl rfl rfl rfl rfl rfl ?_
          · (first | omega | (first | rfl | assumption | ((simp (disch := omega) only [app, upd, hp, if_pos, if_neg]); first | rfl | assumption)) | (first | omega | assumption | (focus (simp; omega))))
          · (first | omega | (first | rfl | assumption | ((simp (disch := omega) only [app, upd, hp, if_pos, if_neg]); first | rfl | assumption)) | (first | omega | assumption | (focus (simp; omega))))
          refine rfa (off := 1) (s := 5) (r := true) rfl rfl rfl (Nat.succ_ne_zero _) rfl rfl rfl ?_
          (apply rst rfl rfl rfl; (first | rfl | assumption | ((simp (disch := omega) only [app, upd, hp, if_pos, if_neg]); first | rfl | assumption)); rfl; rfl; rfl; rfl; rfl; (exact Nat.le_of_ble_eq_true rfl); rfl; rfl; rfl)
          refine rNil ?_
          refine qSeq ?_
          refine wSeq ?_
          refine wSeq ?_
          refine wRegion ?_
          refine rmI rfl rfl rfl rfl rfl ?_
          refine rlt rfl rfl rfl rfl rfl rfl ?_ ?_ <;> intro h13_1
          · refine rmB rfl rfl rfl rfl rfl ?_
            refine rSkip rfl rfl rfl ?_
            refine rSkip rfl rfl rfl ?_
            refine rSkip rfl rfl rfl ?_
            refine rpk (e := true) rfl rfl rfl rfl rfl rfl ?_
            refine rmB rfl rfl rfl rfl rfl ?_
            refine rSkip rfl rfl rfl ?_
            refine rSkip rfl rfl rfl ?_
            refine rSkip rfl rfl rfl ?_
            refine rpk (e := true) rfl rfl rfl rfl rfl rfl ?_
            refine rNil ?_
            refine qSeq ?_
            refine wT rfl ?_
            refine wSeq ?_
            refine wRegion ?_
            refine rbd (cs := [.bool _, .int _ _, .int _ _, .int _ _, .int _ _, .str _, _]) rfl rfl rfl rfl rfl ?_
            (apply rst rfl rfl rfl; (first | rfl | assumption | ((simp (disch := omega) only [app, upd, hp, if_pos, if_neg]); first | rfl | assumption)); rfl; rfl; rfl; rfl; rfl; (exact Nat.le_of_ble_eq_true rfl); rfl; rfl; rfl)
            refine raB rfl rfl rfl rfl rfl ?_
            refine rNil ?_
            refine qSeq ?_
            refine wRet ?_
            refine qSeqR ?_
            obtain ei : i = (cI s).toNat := by omega
            have nk : ¬ okR s := fun e => by
              obtain ⟨e1, e2, e3, e4⟩ := e
              first | omega | (rw [ei] at h13_4; exact of_decide_eq_false h13_4 e3) | (rw [ei] at h13_9; exact h13_9 e4)
            rw [resI_1 h1_1 nk, decide_eq_false (okI_1 h1_1 nk)]; exact fin rfl rfl
          · refine rmB rfl rfl rfl rfl rfl ?_
            refine rmP rfl rfl rfl rfl rfl ?_
            refine ropB (o60 (reqS (rdsS (x1 s) i).2).2 ?_ ?_) rfl rfl rfl rfl rfl rfl ?_ ?_
            · (first | omega | (first | rfl | assumption | ((simp (disch := omega) only [app, upd, hp, if_pos, if_neg]); first | rfl | assumption)) | (first | omega | assumption | (focus (simp; omega))))
            · (first | omega | (first | rfl | assumption | ((simp (disch := omega) only [app, upd, hp, if_pos, if_neg]); first | rfl | assumption)) | (first | omega | assumption | (focus (simp; omega))))
            all_goals intro h13_4
            · refine rnot (c := true) rfl rfl rfl rfl rfl ?_
              refine rpk (e := false) rfl rfl rfl rfl rfl rfl ?_
              refine rmB rfl rfl rfl rfl rfl ?_
              (apply rlr (vs := [.bool _, .int _ _, .int _ _, .int _ _, .int _ _, .str _, _]) rfl rfl; (first | rfl | assumption | ((simp (disch := omega) only [app, upd, hp, if_pos, if_neg]); first | rfl | assumption)); rfl; rfl; (exact Nat.le_of_ble_eq_true rfl); rfl; rfl; rfl; rfl)
              apply rclSP [] (p61 _ (reqS (rdsS (x1 s) i).2).1 (rdsS (x1 s) i).1) rfl rfl rfl
              · (rw [hi1]; (repeat first | exact SnapL.nil | exact SnapC.nil | refine SnapL.cons _ _ _ _ (SnapC.agg ?_) ?_ | refine SnapL.cons _ _ _ _ (.one _ _ ?_) ?_ | refine SnapC.cons _ _ _ _ ?_ ?_ | exact .int _ _ | exact .bool _ | exact .str _ | exact .nsl | exact .nslW | (apply snapView  <;> first | (focus (simp [rdsS_length]; done)) | (first | rfl | assumption | ((simp (disch := omega) only [app, upd, hp, if_pos, if_neg]); first | rfl | assumption)))))
              · rfl
              · rfl
              · rfl
              all_goals intro h13_9
              · refine rnot (c := true) rfl rfl rfl rfl rfl ?_
                refine rpk (e := false) rfl rfl rfl rfl rfl rfl ?_
                refine rNil ?_
                refine qSeq ?_
                refine wF rfl ?_
                refine wSkip ?_
                refine qSeq ?_
                refine wSeq ?_
                refine wRegion ?_
                (apply rlr (vs := [.bool _, .int _ _, .int _ _, .int _ _, .int _ _, .str _, _]) rfl rfl; (first | rfl | assumption | ((simp (disch := omega) only [app, upd, hp, if_pos, if_neg]); first | rfl | assumption)); rfl; rfl; (exact Nat.le_of_ble_eq_true rfl); rfl; rfl; rfl; rfl)
                (apply rst rfl rfl rfl; (first | rfl | assumption | ((simp (disch := omega) only [app, upd, hp, if_pos, if_neg]); first | rfl | assumption)); rfl; rfl; rfl; rfl; rfl; (exact Nat.le_of_ble_eq_true rfl); rfl; rfl; rfl)
                refine raB rfl rfl rfl rfl rfl ?_
                refine rNil ?_
                refine qSeq ?_
                refine wRet ?_
                obtain ei : i = (cI s).toNat := by omega
                have hk : okR s := ⟨by omega, by omega, by rw [ei] at h13_4; exact of_decide_eq_true h13_4, by rw [ei] at h13_9; exact h13_9⟩
                rw [resI_2 h1_1 hk (by omega), decide_eq_true (okI_2 h1_1 hk)]
                unfold rqI; rw [← ei]
                exact fin rfl rfl
              · refine rnot (c := false) rfl rfl rfl rfl rfl ?_
                refine rpk (e := true) rfl rfl rfl rfl rfl rfl ?_
                refine rNil ?_
                refine qSeq ?_
                refine wT rfl ?_
                refine wSeq ?_
                refine wRegion ?_
                refine rbd (cs := [.bool _, .int _ _, .int _ _, .int _ _, .int _ _, .str _, _]) rfl rfl rfl rfl rfl ?_
                (apply rst rfl rfl rfl; (first | rfl | assumption | ((simp (disch := omega) only [app, upd, hp, if_pos, if_neg]); first | rfl | assumption)); rfl; rfl; rfl; rfl; rfl; (exact Nat.le_of_ble_eq_true rfl); rfl; rfl; rfl)
                refine raB rfl rfl rfl rfl rfl ?_
                refine rNil ?_
                refine qSeq ?_
                refine wRet ?_
                refine qSeqR ?_
                obtain ei : i = (cI s).toNat := by omega
                have nk : ¬ okR s := fun e => by
                  obtain ⟨e1, e2, e3, e4⟩ := e
                  first | omega | (rw [ei] at h13_4; exact of_decide_eq_false h13_4 e3) | (rw [ei] at h13_9; exact h13_9 e4)
                rw [resI_1 h1_1 nk, decide_eq_false (okI_1 h1_1 nk)]; exact fin rfl rfl
            · refine rnot (c := false) rfl rfl rfl rfl rfl ?_
              refine rpk (e := true) rfl rfl rfl rfl rfl rfl ?_
              refine rmB rfl rfl rfl rfl rfl ?_
              refine rSkip rfl rfl rfl ?_
              refine rSkip rfl rfl rfl ?_
              refine rSkip rfl rfl rfl ?_
              refine rpk (e := true) rfl rfl rfl rfl rfl rfl ?_
              refine rNil ?_
              refine qSeq ?_
              refine wT rfl ?_
              refine wSeq ?_
              refine wRegion ?_
              refine rbd (cs := [.bool _, .int _ _, .int _ _, .int _ _, .int _ _, .str _, _]) rfl rfl rfl rfl rfl ?_
              (apply rst rfl rfl rfl; (first | rfl | assumption | ((simp (disch := omega) only [app, upd, hp, if_pos, if_neg]); first | rfl | assumption)); rfl; rfl; rfl; rfl; rfl; (exact Nat.le_of_ble_eq_true rfl); rfl; rfl; rfl)
              refine raB rfl rfl rfl rfl rfl ?_
              refine rNil ?_
              refine qSeq ?_
              refine wRet ?_
              refine qSeqR ?_
              obtain ei : i = (cI s).toNat := by omega
              have nk : ¬ okR s := fun e => by
                obtain ⟨e1, e2, e3, e4⟩ := e
                first | omega | (rw [ei] at h13_4; exact of_decide_eq_false h13_4 e3) | (rw [ei] at h13_9; exact h13_9 e4)
              rw [resI_1 h1_1 nk, decide_eq_false (okI_1 h1_1 nk)]; exact fin rfl rfl
      · skip
        rw [if_neg hi0]
        refine lStep ?_
        refine wSeq ?_
        refine wRegion ?_
        refine rlt rfl rfl rfl rfl rfl rfl ?_ ?_ <;> intro h9_0
        · refine rNil ?_
          refine qSeq ?_
          refine wSeq ?_
          refine wT rfl ?_
          refine wSkip ?_
          refine qSeq ?_
          refine wSeq ?_
          refine wBlock ?_
          refine wDraw [0, 1, 0, 4, 0, 28, 0, 124, 252, 508, 1023, 2047, 4095] rfl (by decide +kernel) ?_
          refine dfa (off := 6) (s := 1) (r := false) rfl rfl rfl (Nat.succ_ne_zero _) rfl rfl rfl ?_
          (apply dlc (v := .view _ _ _) rfl rfl; (first | rfl | assumption | ((simp (disch := omega) only [app, upd, hp, if_pos, if_neg]); first | rfl | assumption)); rfl; rfl; rfl; rfl; rfl; rfl)
          refine dmP rfl rfl rfl rfl rfl ?_
          refine dop (o57 (rdsS (x1 s) i).2 1 ?_ ?_ ?_ ?_) rfl rfl rfl rfl rfl rfl ?_
          · (first | omega | (first | rfl | assumption | ((simp (disch := omega) only [app, upd, hp, if_pos, if_neg]); first | rfl | assumption)) | (first | omega | assumption | (focus (simp; omega))))
          · (first | omega | (first | rfl | assumption | ((simp (disch := omega) only [app, upd, hp, if_pos, if_neg]); first | rfl | assumption)) | (first | omega | assumption | (focus (simp; omega))))
          · (first | omega | (first | rfl | assumption | ((simp (disch := omega) only [app, upd, hp, if_pos, if_neg]); first | rfl | assumption)) | (first | omega | assumption | (focus (simp; omega))))
          · (first | omega | (first | rfl | assumption | ((simp (disch := omega) only [app, upd, hp, if_pos, if_neg]); first | rfl | assumption)) | (first | omega | assumption | (focus (simp; omega))))
          refine dmP rfl rfl rfl rfl rfl ?_
          refine dop (o57 (numS (rdsS (x1 s) i).2 1).2 4 ?_ ?_ ?_ ?_) rfl rfl rfl rfl rfl rfl ?_
          · (first | omega | (first | rfl | assumption | ((simp (disch := omega) only [app, upd, hp, if_pos, if_neg]); first | rfl | assumption)) | (first | omega | assumption | (focus (simp; omega))))
          · (first | omega | (first | rfl | assumption | ((simp (disch := omega) only [app, upd, hp, if_pos, if_neg]); first | rfl | assumption)) | (first | omega | assumption | (focus (simp; omega))))
          · (first | omega | (first | rfl | assumption | ((simp (disch := omega) only [app, upd, hp, if_pos, if_neg]); first | rfl | assumption)) | (first | omega | assumption | (focus (simp; omega))))
          · (first | omega | (first | rfl | assumption | ((simp (disch := omega) only [app, upd, hp, if_pos, if_neg]); first | rfl | assumption)) | (first | omega | assumption | (focus (simp; omega))))
          refine dmP rfl rfl rfl rfl rfl ?_
          refine dop (o58 (numS (numS (rdsS (x1 s) i).2 1).2 4).2 8 ?_ ?_) rfl rfl rfl rfl rfl rfl ?_
          · (first | omega | (first | rfl | assumption | ((simp (disch := omega) only [app, upd, hp, if_pos, if_neg]); first | rfl | assumption)) | (first | omega | assumption | (focus (simp; omega))))
          · (first | omega | (first | rfl | assumption | ((simp (disch := omega) only [app, upd, hp, if_pos, if_neg]); first | rfl | assumption)) | (first | omega | assumption | (focus (simp; omega))))
          refine dbd (cs := [.int _ _, .int _ _, .str _]) rfl rfl rfl rfl rfl ?_
          refine dbs (es := [[.int _ _, .int _ _, .str _]]) rfl rfl rfl rfl (Nat.succ_ne_zero _) (Nat.le_of_ble_eq_true rfl) rfl rfl rfl rfl rfl ?_
          (apply dap (s' := 32) (es := [[.int _ _, .int _ _, .str _]]) rfl rfl; (first | rfl | assumption | ((simp (disch := omega) only [app, upd, hp, if_pos, if_neg]); first | rfl | assumption)); rfl; rfl; (focus (simp [rowsV_length, rdsS_length]; done)); rfl; rfl; exact (Nat.succ_ne_zero _); (first | rfl | (apply srcView rfl; (first | rfl | assumption | ((simp (disch := omega) only [app, upd, hp, if_pos, if_neg]); first | rfl | assumption)); (first | exact Nat.le_refl _ | omega); rfl)); (first | rfl | assumption | (focus (simp; done)) | (intro _ _; simp_all)); (first | omega | (focus (simp only [List.length_cons, List.length_nil]; omega)) | fail); (first | omega | (focus (simp only [List.length_cons, List.length_nil]; omega)) | fail); rfl; rfl; rfl)
          refine dfa (off := 6) (s := 1) (r := false) rfl rfl rfl (Nat.succ_ne_zero _) rfl rfl rfl ?_
          (apply dst rfl rfl rfl; (first | rfl | assumption | ((simp (disch := omega) only [app, upd, hp, if_pos, if_neg]); first | rfl | assumption)); rfl; rfl; rfl; rfl; rfl; (exact Nat.le_of_ble_eq_true rfl); rfl; rfl; rfl)
          refine dNilR 13 [3, 0, 3, 3, 0, 3, 0, 3, 0, 3, 0, 1, 0] [(1, 3), (1, 5), (1, 7), (1, 9)] rfl rfl (by decide +kernel) ?_ ?_
          · (simp [ClearL, ids]; try omega)
          refine qBlock ?_
          refine qSeq ?_
          refine wRegion ?_
          refine raddF rfl rfl rfl ?_ ?_ rfl rfl rfl ?_
          · (first | omega | assumption | (focus (simp; omega)))
          · (first | omega | assumption | (focus (simp; omega)))
          refine rmI rfl rfl rfl rfl rfl ?_
          refine rNil ?_
          refine qLoop ?_
          exact wlH (h' := hp [(0, blkB .nsl), (1, rdrB (rdsS (x1 s) (i + 1)).2), (3, blkB (.view (m + 3) 0 (i + 1))), (m + 3, ⟨rowsV ((rdsS (x1 s) (i + 1)).1.map Rd.T), 3, 96⟩)]) (ih (i + 1, m + 3, m + 4) ⟨by dsimp only; omega, by dsimp only; omega, by dsimp only; omega⟩ (by dsimp only; omega)) (by (repeat first | exact LE.nil _ | refine LE.unk _ _ ?_ | refine LE.eq _ _ _ rfl ?_)) (by (repeat first | exact lessH0 | (refine lessHc ?_ ?_; (first | (first | rfl | assumption | ((simp (disch := omega) only [app, upd, hp, if_pos, if_neg]); first | rfl | assumption)) | (simp (disch := omega) only [app, upd, hp, if_pos, if_neg]; rw [rdsS_succ, List.map_append, rowsV_append]; rfl))))) (by dsimp only; omega)
        · refine rNil ?_
          refine qSeq ?_
          refine wSeq ?_
          refine wF rfl ?_
          refine wExit ?_
          refine qSeqX ?_
          refine qLoopX ?_
          refine qBlockX ?_
          refine qSeq ?_
          refine wSeq ?_
          refine wRegion ?_
          refine rmP rfl rfl rfl rfl rfl ?_
          refine rop (o59 (rdsS (x1 s) i).2 ?_ ?_) rfl rfl rfl rfl rfl rfl ?_
          · (first | omega | (first | rfl | assumption | ((simp (disch := omega) only [app, upd, hp, if_pos, if_neg]); first | rfl | assumption)) | (first | omega | assumption | (focus (simp; omega))))
          · (first | omega | (first | rfl | assumption | ((simp (disch := omega) only [app, upd, hp, if_pos, if_neg]); first | rfl | assumption)) | (first | omega | assumption | (focus (simp; omega))))
          refine rfa (off := 1) (s := 5) (r := true) rfl rfl rfl (Nat.succ_ne_zero _) rfl rfl rfl ?_
          (apply rst rfl rfl rfl; (first | rfl | assumption | ((simp (disch := omega) only [app, upd, hp, if_pos, if_neg]); first | rfl | assumption)); rfl; rfl; rfl; rfl; rfl; (exact Nat.le_of_ble_eq_true rfl); rfl; rfl; rfl)
          refine rNil ?_
          refine qSeq ?_
          refine wSeq ?_
          refine wSeq ?_
          refine wRegion ?_
          refine rmI rfl rfl rfl rfl rfl ?_
          refine rlt rfl rfl rfl rfl rfl rfl ?_ ?_ <;> intro h13_1
          · refine rmB rfl rfl rfl rfl rfl ?_
            refine rSkip rfl rfl rfl ?_
            refine rSkip rfl rfl rfl ?_
            refine rSkip rfl rfl rfl ?_
            refine rpk (e := true) rfl rfl rfl rfl rfl rfl ?_
            refine rmB rfl rfl rfl rfl rfl ?_
            refine rSkip rfl rfl rfl ?_
            refine rSkip rfl rfl rfl ?_
            refine rSkip rfl rfl rfl ?_
            refine rpk (e := true) rfl rfl rfl rfl rfl rfl ?_
            refine rNil ?_
            refine qSeq ?_
            refine wT rfl ?_
            refine wSeq ?_
            refine wRegion ?_
            refine rbd (cs := [.bool _, .int _ _, .int _ _, .int _ _, .int _ _, .str _, _]) rfl rfl rfl rfl rfl ?_
            (apply rst rfl rfl rfl; (first | rfl | assumption | ((simp (disch := omega) only [app, upd, hp, if_pos, if_neg]); first | rfl | assumption)); rfl; rfl; rfl; rfl; rfl; (exact Nat.le_of_ble_eq_true rfl); rfl; rfl; rfl)
            refine raB rfl rfl rfl rfl rfl ?_
            refine rNil ?_
            refine qSeq ?_
            refine wRet ?_
            refine qSeqR ?_
            obtain ei : i = (cI s).toNat := by omega
            have nk : ¬ okR s := fun e => by
              obtain ⟨e1, e2, e3, e4⟩ := e
              first | omega | (rw [ei] at h13_4; exact of_decide_eq_false h13_4 e3) | (rw [ei] at h13_9; exact h13_9 e4)
            rw [resI_1 h1_1 nk, decide_eq_false (okI_1 h1_1 nk)]; exact fin rfl rfl
          · refine rmB rfl rfl rfl rfl rfl ?_
            refine rmP rfl rfl rfl rfl rfl ?_
            refine ropB (o60 (reqS (rdsS (x1 s) i).2).2 ?_ ?_) rfl rfl rfl rfl rfl rfl ?_ ?_
            · (first | omega | (first | rfl | assumption | ((simp (disch := omega) only [app, upd, hp, if_pos, if_neg]); first | rfl | assumption)) | (first | omega | assumption | (focus (simp; omega))))
            · (first | omega | (first | rfl | assumption | ((simp (disch := omega) only [app, upd, hp, if_pos, if_neg]); first | rfl | assumption)) | (first | omega | assumption | (focus (simp; omega))))
            all_goals intro h13_4
            · refine rnot (c := true) rfl rfl rfl rfl rfl ?_
              refine rpk (e := false) rfl rfl rfl rfl rfl rfl ?_
              refine rmB rfl rfl rfl rfl rfl ?_
              (apply rlr (vs := [.bool _, .int _ _, .int _ _, .int _ _, .int _ _, .str _, _]) rfl rfl; (first | rfl | assumption | ((simp (disch := omega) only [app, upd, hp, if_pos, if_neg]); first | rfl | assumption)); rfl; rfl; (exact Nat.le_of_ble_eq_true rfl); rfl; rfl; rfl; rfl)
              apply rclSP [q] (p61 _ (reqS (rdsS (x1 s) i).2).1 (rdsS (x1 s) i).1) rfl rfl rfl
              · (repeat first | exact SnapL.nil | exact SnapC.nil | refine SnapL.cons _ _ _ _ (SnapC.agg ?_) ?_ | refine SnapL.cons _ _ _ _ (.one _ _ ?_) ?_ | refine SnapC.cons _ _ _ _ ?_ ?_ | exact .int _ _ | exact .bool _ | exact .str _ | exact .nsl | exact .nslW | (apply snapView ((rdsS (x1 s) i).1.map Rd.T) <;> first | (focus (simp [rdsS_length]; done)) | (first | rfl | assumption | ((simp (disch := omega) only [app, upd, hp, if_pos, if_neg]); first | rfl | assumption))))
              · rfl
              · rfl
              · rfl
              all_goals intro h13_9
              · refine rnot (c := true) rfl rfl rfl rfl rfl ?_
                refine rpk (e := false) rfl rfl rfl rfl rfl rfl ?_
                refine rNil ?_
                refine qSeq ?_
                refine wF rfl ?_
                refine wSkip ?_
                refine qSeq ?_
                refine wSeq ?_
                refine wRegion ?_
                (apply rlr (vs := [.bool _, .int _ _, .int _ _, .int _ _, .int _ _, .str _, _]) rfl rfl; (first | rfl | assumption | ((simp (disch := omega) only [app, upd, hp, if_pos, if_neg]); first | rfl | assumption)); rfl; rfl; (exact Nat.le_of_ble_eq_true rfl); rfl; rfl; rfl; rfl)
                (apply rst rfl rfl rfl; (first | rfl | assumption | ((simp (disch := omega) only [app, upd, hp, if_pos, if_neg]); first | rfl | assumption)); rfl; rfl; rfl; rfl; rfl; (exact Nat.le_of_ble_eq_true rfl); rfl; rfl; rfl)
                refine raB rfl rfl rfl rfl rfl ?_
                refine rNil ?_
                refine qSeq ?_
                refine wRet ?_
                obtain ei : i = (cI s).toNat := by omega
                have hk : okR s := ⟨by omega, by omega, by rw [ei] at h13_4; exact of_decide_eq_true h13_4, by rw [ei] at h13_9; exact h13_9⟩
                rw [resI_3 h1_1 hk (by omega), decide_eq_true (okI_2 h1_1 hk)]
                unfold rqI rsI; rw [← ei]
                refine finS (xs := [.agg [_, _, _, _, _, _, _], _]) [q] rfl ?_; (repeat first | exact SnapL.nil | exact SnapC.nil | refine SnapL.cons _ _ _ _ (SnapC.agg ?_) ?_ | refine SnapL.cons _ _ _ _ (.one _ _ ?_) ?_ | refine SnapC.cons _ _ _ _ ?_ ?_ | exact .int _ _ | exact .bool _ | exact .str _ | exact .nsl | exact .nslW | (apply snapView ((rdsS (x1 s) i).1.map Rd.T) <;> first | (focus (simp [rdsS_length]; done)) | (first | rfl | assumption | ((simp (disch := omega) only [app, upd, hp, if_pos, if_neg]); first | rfl | assumption))))
              · refine rnot (c := false) rfl rfl rfl rfl rfl ?_
                refine rpk (e := true) rfl rfl rfl rfl rfl rfl ?_
                refine rNil ?_
                refine qSeq ?_
                refine wT rfl ?_
                refine wSeq ?_
                refine wRegion ?_
                refine rbd (cs := [.bool _, .int _ _, .int _ _, .int _ _, .int _ _, .str _, _]) rfl rfl rfl rfl rfl ?_
                (apply rst rfl rfl rfl; (first | rfl | assumption | ((simp (disch := omega) only [app, upd, hp, if_pos, if_neg]); first | rfl | assumption)); rfl; rfl; rfl; rfl; rfl; (exact Nat.le_of_ble_eq_true rfl); rfl; rfl; rfl)
                refine raB rfl rfl rfl rfl rfl ?_
                refine rNil ?_
                refine qSeq ?_
                refine wRet ?_
                refine qSeqR ?_
                obtain ei : i = (cI s).toNat := by omega
                have nk : ¬ okR s := fun e => by
                  obtain ⟨e1, e2, e3, e4⟩ := e
                  first | omega | (rw [ei] at h13_4; exact of_decide_eq_false h13_4 e3) | (rw [ei] at h13_9; exact h13_9 e4)
                rw [resI_1 h1_1 nk, decide_eq_false (okI_1 h1_1 nk)]; exact fin rfl rfl
            · refine rnot (c := false) rfl rfl rfl rfl rfl ?_
              refine rpk (e := true) rfl rfl rfl rfl rfl rfl ?_
              refine rmB rfl rfl rfl rfl rfl ?_
              refine rSkip rfl rfl rfl ?_
              refine rSkip rfl rfl rfl ?_
              refine rSkip rfl rfl rfl ?_
              refine rpk (e := true) rfl rfl rfl rfl rfl rfl ?_
              refine rNil ?_
              refine qSeq ?_
              refine wT rfl ?_
              refine wSeq ?_
              refine wRegion ?_
              refine rbd (cs := [.bool _, .int _ _, .int _ _, .int _ _, .int _ _, .str _, _]) rfl rfl rfl rfl rfl ?_
              (apply rst rfl rfl rfl; (first | rfl | assumption | ((simp (disch := omega) only [app, upd, hp, if_pos, if_neg]); first | rfl | assumption)); rfl; rfl; rfl; rfl; rfl; (exact Nat.le_of_ble_eq_true rfl); rfl; rfl; rfl)
              refine raB rfl rfl rfl rfl rfl ?_
              refine rNil ?_
              refine qSeq ?_
              refine wRet ?_
              refine qSeqR ?_
              obtain ei : i = (cI s).toNat := by omega
              have nk : ¬ okR s := fun e => by
                obtain ⟨e1, e2, e3, e4⟩ := e
                first | omega | (rw [ei] at h13_4; exact of_decide_eq_false h13_4 e3) | (rw [ei] at h13_9; exact h13_9 e4)
              rw [resI_1 h1_1 nk, decide_eq_false (okI_1 h1_1 nk)]; exact fin rfl rfl
end Go.Proofs.Ytnkpjlpappmccaa
