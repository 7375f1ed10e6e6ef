import Derived.Test.YtnkpjlpappmccaaC7
namespace Go.Proofs.Ytnkpjlpappmccaa
open Go.V
set_option linter.unusedVariables false
set_option linter.unusedSimpArgs false
set_option maxRecDepth 20000
set_option maxHeartbeats 4000000

abbrev RS := ByteArray × Bool
def numS (x : RS) (k : Int) : Int × RS := (be (takeS x k).1 0 (takeS x k).1.size, (takeS x k).2)
def sizS (x : RS) (k : Int) : ByteArray × RS := takeS (numS x k).2 (numS x k).1
theorem o75 (x : RS) (k : Int) {id : Nat} {h : Heap} {n : Nat} (h0 : 0 ≤ k) (h4 : k ≤ 4) (hb : h id = some (rdrB x)) (hn : id < n) : V.Open En 75 [.ptr id 0 0, .int .i64 k] h n (.str (sizS x k).1) [(id, some (rdrB (sizS x k).2))] (n + 1) := by
  refine V.Open.of_wp Try.func75 rfl (Nat.le_of_ble_eq_true rfl) ?_
  refine wSeq ?_
  refine wRegion ?_
  refine raS rfl rfl rfl rfl rfl ?_
  refine rNil ?_
  refine qSeq ?_
  refine wSeq ?_
  refine wRegion ?_
  refine rmP rfl rfl rfl rfl rfl ?_
  refine rmP rfl rfl rfl rfl rfl ?_
  refine rmI rfl rfl rfl rfl rfl ?_
  refine rop (o57 x k ?_ ?_ ?_ ?_) rfl rfl rfl rfl rfl rfl ?_
  · (first | omega | exact be_0 _ _ _ | assumption | (simp (disch := omega) only [app, upd, if_pos, if_neg]; rfl))
  · (first | omega | exact be_0 _ _ _ | assumption | (simp (disch := omega) only [app, upd, if_pos, if_neg]; rfl))
  · (first | omega | exact be_0 _ _ _ | assumption | (simp (disch := omega) only [app, upd, if_pos, if_neg]; rfl))
  · (first | omega | exact be_0 _ _ _ | assumption | (simp (disch := omega) only [app, upd, if_pos, if_neg]; rfl))
  refine rop (o58 (numS x k).2 (numS x k).1 ?_ ?_) rfl rfl rfl rfl rfl rfl ?_
  · (first | omega | exact be_0 _ _ _ | assumption | (simp (disch := omega) only [app, upd, if_pos, if_neg]; rfl))
  · (first | omega | exact be_0 _ _ _ | assumption | (simp (disch := omega) only [app, upd, if_pos, if_neg]; rfl))
  refine raS rfl rfl rfl rfl rfl ?_
  refine rNil ?_
  refine qSeq ?_
  refine wRet ?_
  exact finO rfl rfl (fun hz j b hj => by
    by_cases e : j = id
    · subst e; simp (disch := omega) only [app, upd, if_pos, if_neg] at hj ⊢; exact hj
    · have hj2 : h j = some b := by simpa only [app, upd, e, if_false] using hj
      have : j < n := by
        rcases Nat.lt_or_ge j n with h1 | h1
        · exact h1
        · rw [hz j h1] at hj2; cases hj2
      simp (disch := omega) only [app, upd, if_neg]; exact hj2) (Nat.le_refl _)

def reqS (x : RS) : Rq × RS :=
  (⟨(numS x 1).1, (numS (numS x 1).2 2).1, (numS (numS (numS x 1).2 2).2 1).1, (numS (numS (numS (numS x 1).2 2).2 1).2 2).1, (sizS (numS (numS (numS (numS x 1).2 2).2 1).2 2).2 1).1⟩, (sizS (numS (numS (numS (numS x 1).2 2).2 1).2 2).2 1).2)
theorem o59 (x : RS) {id : Nat} {h : Heap} {n : Nat} (hb : h id = some (rdrB x)) (hn : id < n) : V.Open En 59 [.ptr id 0 0] h n (.agg ((reqS x).1.T.map (T.toV false))) [(id, some (rdrB (reqS x).2))] (n + 6) := by
  refine V.Open.of_wp Try.func59 rfl (Nat.le_of_ble_eq_true rfl) ?_
  refine wSeq ?_
  refine wRegion ?_
  refine ral rfl rfl rfl rfl rfl rfl ?_
  refine rNil ?_
  refine qSeq ?_
  refine wSeq ?_
  refine wRegion ?_
  refine rmP rfl rfl rfl rfl rfl ?_
  refine rop (o57 x 1 ?_ ?_ ?_ ?_) rfl rfl rfl rfl rfl rfl ?_
  · (first | omega | exact be_0 _ _ _ | assumption | (simp (disch := omega) only [app, upd, if_pos, if_neg]; rfl) | (simp (disch := omega) only [app, upd, if_pos, if_neg]; assumption))
  · (first | omega | exact be_0 _ _ _ | assumption | (simp (disch := omega) only [app, upd, if_pos, if_neg]; rfl) | (simp (disch := omega) only [app, upd, if_pos, if_neg]; assumption))
  · (first | omega | exact be_0 _ _ _ | assumption | (simp (disch := omega) only [app, upd, if_pos, if_neg]; rfl) | (simp (disch := omega) only [app, upd, if_pos, if_neg]; assumption))
  · (first | omega | exact be_0 _ _ _ | assumption | (simp (disch := omega) only [app, upd, if_pos, if_neg]; rfl) | (simp (disch := omega) only [app, upd, if_pos, if_neg]; assumption))
  refine rmP rfl rfl rfl rfl rfl ?_
  refine rop (o57 (numS x 1).2 2 ?_ ?_ ?_ ?_) rfl rfl rfl rfl rfl rfl ?_
  · (first | omega | exact be_0 _ _ _ | assumption | (simp (disch := omega) only [app, upd, if_pos, if_neg]; rfl) | (simp (disch := omega) only [app, upd, if_pos, if_neg]; assumption))
  · (first | omega | exact be_0 _ _ _ | assumption | (simp (disch := omega) only [app, upd, if_pos, if_neg]; rfl) | (simp (disch := omega) only [app, upd, if_pos, if_neg]; assumption))
  · (first | omega | exact be_0 _ _ _ | assumption | (simp (disch := omega) only [app, upd, if_pos, if_neg]; rfl) | (simp (disch := omega) only [app, upd, if_pos, if_neg]; assumption))
  · (first | omega | exact be_0 _ _ _ | assumption | (simp (disch := omega) only [app, upd, if_pos, if_neg]; rfl) | (simp (disch := omega) only [app, upd, if_pos, if_neg]; assumption))
  refine rmP rfl rfl rfl rfl rfl ?_
  refine rop (o57 (numS (numS x 1).2 2).2 1 ?_ ?_ ?_ ?_) rfl rfl rfl rfl rfl rfl ?_
  · (first | omega | exact be_0 _ _ _ | assumption | (simp (disch := omega) only [app, upd, if_pos, if_neg]; rfl) | (simp (disch := omega) only [app, upd, if_pos, if_neg]; assumption))
  · (first | omega | exact be_0 _ _ _ | assumption | (simp (disch := omega) only [app, upd, if_pos, if_neg]; rfl) | (simp (disch := omega) only [app, upd, if_pos, if_neg]; assumption))
  · (first | omega | exact be_0 _ _ _ | assumption | (simp (disch := omega) only [app, upd, if_pos, if_neg]; rfl) | (simp (disch := omega) only [app, upd, if_pos, if_neg]; assumption))
  · (first | omega | exact be_0 _ _ _ | assumption | (simp (disch := omega) only [app, upd, if_pos, if_neg]; rfl) | (simp (disch := omega) only [app, upd, if_pos, if_neg]; assumption))
  refine rmP rfl rfl rfl rfl rfl ?_
  refine rop (o57 (numS (numS (numS x 1).2 2).2 1).2 2 ?_ ?_ ?_ ?_) rfl rfl rfl rfl rfl rfl ?_
  · (first | omega | exact be_0 _ _ _ | assumption | (simp (disch := omega) only [app, upd, if_pos, if_neg]; rfl) | (simp (disch := omega) only [app, upd, if_pos, if_neg]; assumption))
  · (first | omega | exact be_0 _ _ _ | assumption | (simp (disch := omega) only [app, upd, if_pos, if_neg]; rfl) | (simp (disch := omega) only [app, upd, if_pos, if_neg]; assumption))
  · (first | omega | exact be_0 _ _ _ | assumption | (simp (disch := omega) only [app, upd, if_pos, if_neg]; rfl) | (simp (disch := omega) only [app, upd, if_pos, if_neg]; assumption))
  · (first | omega | exact be_0 _ _ _ | assumption | (simp (disch := omega) only [app, upd, if_pos, if_neg]; rfl) | (simp (disch := omega) only [app, upd, if_pos, if_neg]; assumption))
  refine rmP rfl rfl rfl rfl rfl ?_
  refine rop (o75 (numS (numS (numS (numS x 1).2 2).2 1).2 2).2 1 ?_ ?_ ?_ ?_) rfl rfl rfl rfl rfl rfl ?_
  · (first | omega | exact be_0 _ _ _ | assumption | (simp (disch := omega) only [app, upd, if_pos, if_neg]; rfl) | (simp (disch := omega) only [app, upd, if_pos, if_neg]; assumption))
  · (first | omega | exact be_0 _ _ _ | assumption | (simp (disch := omega) only [app, upd, if_pos, if_neg]; rfl) | (simp (disch := omega) only [app, upd, if_pos, if_neg]; assumption))
  · (first | omega | exact be_0 _ _ _ | assumption | (simp (disch := omega) only [app, upd, if_pos, if_neg]; rfl) | (simp (disch := omega) only [app, upd, if_pos, if_neg]; assumption))
  · (first | omega | exact be_0 _ _ _ | assumption | (simp (disch := omega) only [app, upd, if_pos, if_neg]; rfl) | (simp (disch := omega) only [app, upd, if_pos, if_neg]; assumption))
  refine rbd (cs := [.int _ _, .int _ _, .int _ _, .int _ _, .str _]) rfl rfl rfl rfl rfl ?_
  (apply rst rfl rfl rfl; (first | rfl | assumption | ((simp (disch := omega) only [app, upd, hp, if_pos, if_neg]); first | rfl | assumption)); rfl; rfl; rfl; rfl; rfl; (exact Nat.le_of_ble_eq_true rfl); rfl; rfl; rfl)
  refine rNil ?_
  refine qSeq ?_
  refine wRet ?_
  refine finO (xs := [.agg ((reqS x).1.T.map (T.toV false))]) ?_ rfl ?_ (Nat.le_refl _)
  · refine resL_cons ?_ resL_nil
    apply resV_row; rfl; (simp (disch := omega) only [app, upd, if_pos, if_neg]; rfl); rfl; rfl; (exact Nat.le_of_ble_eq_true rfl); rfl
  · exact (fun hz j b hj => by
    by_cases e : j = id
    · subst e; simp (disch := omega) only [app, upd, if_pos, if_neg] at hj ⊢; exact hj
    · have hj2 : h j = some b := by simpa only [app, upd, e, if_false] using hj
      have : j < n := by
        rcases Nat.lt_or_ge j n with h1 | h1
        · exact h1
        · rw [hz j h1] at hj2; cases hj2
      simp (disch := omega) only [app, upd, if_neg]; exact hj2)
/-- Has all been read, and was all of it there? -/
def doneS (x : RS) : Prop := x.2 = false ∧ x.1 = ⟨#[]⟩
noncomputable instance (x : RS) : Decidable (doneS x) := Classical.propDecidable _
theorem o60 (x : RS) {id : Nat} {h : Heap} {n : Nat} (hb : h id = some (rdrB x)) (hn : id < n) : V.Open En 60 [.ptr id 0 0] h n (.bool (decide (doneS x))) [] n := by
  refine V.Open.of_wp Try.func60 rfl (Nat.le_of_ble_eq_true rfl) ?_
  refine wSeq ?_
  refine wRegion ?_
  refine raB rfl rfl rfl rfl rfl ?_
  refine rNil ?_
  refine qSeq ?_
  refine wSeq ?_
  refine wRegion ?_
  refine rmP rfl rfl rfl rfl rfl ?_
  refine rnc (v := .ptr _ _ _) rfl rfl rfl rfl rfl rfl ?_
  refine rfa (off := 1) (s := 1) (r := false) rfl rfl rfl (Nat.succ_ne_zero _) rfl rfl rfl ?_
  ((apply rlcB rfl rfl; (first | rfl | assumption | ((simp (disch := omega) only [app, upd, hp, if_pos, if_neg]); first | rfl | assumption)); rfl; rfl; rfl; rfl; rfl; rfl)) <;> intro h1_3
  · refine rnot (c := true) rfl rfl rfl rfl rfl ?_
    refine rmB rfl rfl rfl rfl rfl ?_
    refine rSkip rfl rfl rfl ?_
    refine rSkip rfl rfl rfl ?_
    refine rSkip rfl rfl rfl ?_
    refine rSkip rfl rfl rfl ?_
    refine rSkip rfl rfl rfl ?_
    refine rpk (e := false) rfl rfl rfl rfl rfl rfl ?_
    refine raB rfl rfl rfl rfl rfl ?_
    refine rNil ?_
    refine qSeq ?_
    refine wRet ?_
    first
      | (rw [decide_eq_true (show doneS x from ⟨h1_3, h1_10⟩)]; exact finO rfl rfl (fun _ _ _ e => e) (Nat.le_refl _))
      | (rw [decide_eq_false (fun hw : doneS x => h1_10 hw.2)]; exact finO rfl rfl (fun _ _ _ e => e) (Nat.le_refl _))
      | (rw [decide_eq_false (fun hw : doneS x => absurd (h1_3.symm.trans hw.1) Bool.noConfusion)]; exact finO rfl rfl (fun _ _ _ e => e) (Nat.le_refl _))
  · refine rnot (c := false) rfl rfl rfl rfl rfl ?_
    refine rmB rfl rfl rfl rfl rfl ?_
    refine rmP rfl rfl rfl rfl rfl ?_
    refine rnc (v := .ptr _ _ _) rfl rfl rfl rfl rfl rfl ?_
    refine rfa (off := 0) (s := 1) (r := false) rfl rfl rfl (Nat.succ_ne_zero _) rfl rfl rfl ?_
    (apply rlc (v := .str _) rfl rfl; (first | rfl | assumption | ((simp (disch := omega) only [app, upd, hp, if_pos, if_neg]); first | rfl | assumption)); rfl; rfl; rfl; rfl; rfl; rfl)
    refine rseq rfl rfl rfl rfl rfl rfl ?_ ?_ <;> intro h1_10
    · refine rpk (e := true) rfl rfl rfl rfl rfl rfl ?_
      refine raB rfl rfl rfl rfl rfl ?_
      refine rNil ?_
      refine qSeq ?_
      refine wRet ?_
      first
        | (rw [decide_eq_true (show doneS x from ⟨h1_3, h1_10⟩)]; exact finO rfl rfl (fun _ _ _ e => e) (Nat.le_refl _))
        | (rw [decide_eq_false (fun hw : doneS x => h1_10 hw.2)]; exact finO rfl rfl (fun _ _ _ e => e) (Nat.le_refl _))
        | (rw [decide_eq_false (fun hw : doneS x => absurd (h1_3.symm.trans hw.1) Bool.noConfusion)]; exact finO rfl rfl (fun _ _ _ e => e) (Nat.le_refl _))
    · refine rpk (e := false) rfl rfl rfl rfl rfl rfl ?_
      refine raB rfl rfl rfl rfl rfl ?_
      refine rNil ?_
      refine qSeq ?_
      refine wRet ?_
      first
        | (rw [decide_eq_true (show doneS x from ⟨h1_3, h1_10⟩)]; exact finO rfl rfl (fun _ _ _ e => e) (Nat.le_refl _))
        | (rw [decide_eq_false (fun hw : doneS x => h1_10 hw.2)]; exact finO rfl rfl (fun _ _ _ e => e) (Nat.le_refl _))
        | (rw [decide_eq_false (fun hw : doneS x => absurd (h1_3.symm.trans hw.1) Bool.noConfusion)]; exact finO rfl rfl (fun _ _ _ e => e) (Nat.le_refl _))
end Go.Proofs.Ytnkpjlpappmccaa
