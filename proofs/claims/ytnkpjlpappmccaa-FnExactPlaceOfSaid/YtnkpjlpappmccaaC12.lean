import Derived.Test.YtnkpjlpappmccaaC11
namespace Go.Proofs.Ytnkpjlpappmccaa
open Go.V
set_option linter.unusedVariables false
set_option linter.unusedSimpArgs false
set_option maxRecDepth 20000
set_option maxHeartbeats 4000000

def strs (L : List ByteArray) : List (List T) := L.map strT
theorem strs_length (L : List ByteArray) : (strs L).length = L.length := List.length_map ..
theorem strs_get {L : List ByteArray} {k : Nat} (h : k < L.length) : (strs L)[k]? = some (strT (L.getD k ⟨#[]⟩)) := mapGet strT ⟨#[]⟩ h

theorem o17 (s : ByteArray) {h : Heap} {n : Nat} : V.Open En 17 [.str s] h n (.bool (decide (s.size > 20000))) [] n := by
  refine V.Open.of_wp Try.func17 rfl (Nat.le_of_ble_eq_true rfl) ?_
  refine wSeq ?_
  refine wRegion ?_
  refine raB rfl rfl rfl rfl rfl ?_
  refine rNil ?_
  refine qSeq ?_
  refine wSeq ?_
  refine wRegion ?_
  refine rmS rfl rfl rfl rfl rfl ?_
  refine rls rfl rfl rfl rfl rfl rfl ?_
  refine rgt rfl rfl rfl rfl rfl rfl ?_ ?_ <;> intro h1_2
  · refine raB rfl rfl rfl rfl rfl ?_
    refine rNil ?_
    refine qSeq ?_
    refine wRet ?_
    first
      | (rw [decide_eq_true (show s.size > 20000 by omega)]; exact finO rfl rfl (fun _ _ _ e => e) (Nat.le_refl _))
      | (rw [decide_eq_false (show ¬ s.size > 20000 by omega)]; exact finO rfl rfl (fun _ _ _ e => e) (Nat.le_refl _))
  · refine raB rfl rfl rfl rfl rfl ?_
    refine rNil ?_
    refine qSeq ?_
    refine wRet ?_
    first
      | (rw [decide_eq_true (show s.size > 20000 by omega)]; exact finO rfl rfl (fun _ _ _ e => e) (Nat.le_refl _))
      | (rw [decide_eq_false (show ¬ s.size > 20000 by omega)]; exact finO rfl rfl (fun _ _ _ e => e) (Nat.le_refl _))

theorem o29 (fr nn : Bool) (L : List ByteArray) {f : Nat} {caps : List V} {h : Heap} {n : Nat} (P : ByteArray → Bool) (d : Nat) (hL : L.length ≤ 1048576)
    (hf : ∀ s m, n ≤ m → V.Open En f (.str s :: caps) h m (.bool (P s)) [] (m + d)) :
    V.Open En 29 [.sl fr nn (strs L), .clo f caps] h n (.int .i64 (firstIx (fun s => P s = true) L)) [] (n + d * L.length) := by
  have hl := strs_length L
  refine V.Open.of_wp Try.func29 rfl (Nat.le_of_ble_eq_true rfl) ?_
  refine wSeq ?_
  refine wRegion ?_
  refine raI rfl rfl rfl rfl rfl ?_
  refine rNil ?_
  refine qSeq ?_
  refine wSeq ?_
  refine wSeq ?_
  refine wRegion ?_
  refine rmL rfl rfl rfl rfl rfl ?_
  refine rll rfl rfl rfl rfl rfl rfl ?_
  refine rmI rfl rfl rfl rfl rfl ?_
  refine rNil ?_
  refine qSeq ?_
  refine wBlock ?_
  refine wLoop ?_
  refine loopGo (fun (a : Nat × Nat) => [.sl fr nn (strs L), .clo f caps, .unk, .unk, .unk, .unk, .unk, .int .i64 (strs L).length, .int .i64 a.1]) (fun (a : Nat × Nat) => h) (fun (a : Nat × Nat) => a.2) (fun (a : Nat × Nat) => a.1 ≤ L.length ∧ (∀ j, j < a.1 → ¬ P (L.getD j ⟨#[]⟩) = true) ∧ a.2 = n + d * a.1) (fun (a : Nat × Nat) => L.length - a.1) (0, n) ?_ ?_ ?_ ?_ ?_
  · exact ⟨Nat.zero_le _, all0, rfl⟩
  · (repeat first | exact LE.nil _ | refine LE.unk _ _ ?_ | refine LE.eq _ _ _ rfl ?_)
  · exact LessH.refl _
  · exact Nat.le_refl _
  intro ⟨i, m⟩ hI ih
  dsimp only at hI ⊢
  refine lStep ?_
  refine wSeq ?_
  refine wRegion ?_
  refine rlt rfl rfl rfl rfl rfl rfl ?_ ?_ <;> intro h2_0
  · refine rNil ?_
    refine qSeq ?_
    refine wSeq ?_
    refine wT rfl ?_
    refine wSkip ?_
    refine qSeq ?_
    refine wSeq ?_
    refine wBlock ?_
    refine wSeq ?_
    refine wRegion ?_
    refine rmI rfl rfl rfl rfl rfl ?_
    refine raI rfl rfl rfl rfl rfl ?_
    refine rNil ?_
    refine qSeq ?_
    refine wSeq ?_
    refine wRegion ?_
    refine rmC rfl rfl rfl rfl rfl ?_
    refine rmL rfl rfl rfl rfl rfl ?_
    refine rmI rfl rfl rfl rfl rfl ?_
    (apply rixl rfl rfl rfl rfl; (first | omega | assumption | (focus (simp; omega))); (first | rfl | assumption | (exact strs_get (by omega))); rfl; rfl; rfl; rfl)
    refine rlic (v := .str _) rfl rfl rfl rfl rfl rfl rfl rfl ?_
    refine ropB (hf (L.getD i ⟨#[]⟩) m ?_) rfl rfl rfl rfl rfl rfl ?_ ?_
    · (rw [hI.2.2]; exact Nat.le_add_right _ _)
    all_goals intro h4_5
    · refine rNil ?_
      refine qSeq ?_
      refine wT rfl ?_
      refine wSeq ?_
      refine wRegion ?_
      refine rmI rfl rfl rfl rfl rfl ?_
      refine raI rfl rfl rfl rfl rfl ?_
      refine rNil ?_
      refine qSeq ?_
      refine wRet ?_
      refine qBlockR ?_
      refine qSeqR ?_
      refine qLoopR ?_
      refine qBlockR ?_
      refine qSeqR ?_
      rw [firstIx_some (fun s => P s = true) (L := L) (i := i) (by omega) hI.2.1 h4_5]; exact finO rfl rfl (fun _ _ _ e => e) (by rw [hI.2.2]; have := Nat.mul_le_mul_left d (show i + 1 ≤ L.length by omega); rw [Nat.mul_succ] at this; omega)
    · refine rNil ?_
      refine qSeq ?_
      refine wF rfl ?_
      refine wSkip ?_
      refine qBlock ?_
      refine qSeq ?_
      refine wRegion ?_
      refine raddF rfl rfl rfl ?_ ?_ rfl rfl rfl ?_
      · (first | omega | assumption | (focus (simp; omega)))
      · (first | omega | assumption | (focus (simp; omega)))
      refine rmI rfl rfl rfl rfl rfl ?_
      refine rNil ?_
      refine qLoop ?_
      exact wlH (ih (i + 1, m + d) ⟨by dsimp only; omega, allS hI.2.1 (fun e => absurd (h4_5.symm.trans e) Bool.false_ne_true), by dsimp only; rw [hI.2.2, Nat.mul_succ]; omega⟩ (by dsimp only; omega)) (by (repeat first | exact LE.nil _ | refine LE.unk _ _ ?_ | refine LE.eq _ _ _ rfl ?_)) (LessH.refl _) (Nat.le_refl _)
  · refine rNil ?_
    refine qSeq ?_
    refine wSeq ?_
    refine wF rfl ?_
    refine wExit ?_
    refine qSeqX ?_
    refine qLoopX ?_
    refine qBlockX ?_
    refine qSeq ?_
    refine wSeq ?_
    refine wRegion ?_
    refine raI rfl rfl rfl rfl rfl ?_
    refine rNil ?_
    refine qSeq ?_
    refine wRet ?_
    rw [firstIx_none (fun s => P s = true) (L := L) (fun j hj => hI.2.1 j (by omega))]; exact finO rfl rfl (fun _ _ _ e => e) (by rw [hI.2.2]; exact Nat.add_le_add_left (Nat.mul_le_mul_left d hI.1) n)
theorem o16 (fr nn : Bool) (L : List ByteArray) {f : Nat} {caps : List V} {h : Heap} {n : Nat} (P : ByteArray → Bool) (d : Nat) (hL : L.length ≤ 1048576)
    (hf : ∀ s m, n ≤ m → V.Open En f (.str s :: caps) h m (.bool (P s)) [] (m + d)) :
    V.Open En 16 [.sl fr nn (strs L), .clo f caps] h n (.bool (decide (0 ≤ firstIx (fun s => P s = true) L))) [] (n + d * L.length) := by
  refine V.Open.of_wp Try.func16 rfl (Nat.le_of_ble_eq_true rfl) ?_
  refine wSeq ?_
  refine wRegion ?_
  refine raB rfl rfl rfl rfl rfl ?_
  refine rNil ?_
  refine qSeq ?_
  refine wSeq ?_
  refine wRegion ?_
  refine rmL rfl rfl rfl rfl rfl ?_
  refine rmC rfl rfl rfl rfl rfl ?_
  refine rop (o29 fr nn L P d hL hf) rfl rfl rfl rfl rfl rfl ?_
  refine rge rfl rfl rfl rfl rfl rfl ?_ ?_ <;> intro h1_3
  · refine raB rfl rfl rfl rfl rfl ?_
    refine rNil ?_
    refine qSeq ?_
    refine wRet ?_
    first
      | (rw [decide_eq_true (show 0 ≤ firstIx (fun s => P s = true) L from h1_3)]; exact finO rfl rfl (fun _ _ _ e => e) (Nat.le_refl _))
      | (rw [decide_eq_false (show ¬ 0 ≤ firstIx (fun s => P s = true) L from h1_3)]; exact finO rfl rfl (fun _ _ _ e => e) (Nat.le_refl _))
  · refine raB rfl rfl rfl rfl rfl ?_
    refine rNil ?_
    refine qSeq ?_
    refine wRet ?_
    first
      | (rw [decide_eq_true (show 0 ≤ firstIx (fun s => P s = true) L from h1_3)]; exact finO rfl rfl (fun _ _ _ e => e) (Nat.le_refl _))
      | (rw [decide_eq_false (show ¬ 0 ≤ firstIx (fun s => P s = true) L from h1_3)]; exact finO rfl rfl (fun _ _ _ e => e) (Nat.le_refl _))

def isCallI (c st : Int) (s : ByteArray) : Prop := okI s ∧ nulI s = false ∧ (rqR s).cl = c ∧ (rqR s).st = st
noncomputable instance (c st : Int) (s : ByteArray) : Decidable (isCallI c st s) := Classical.propDecidable _
theorem isCallI_iff (c st : Int) (s : ByteArray) : isCallI c st s ↔ isCall c st s := by
  unfold isCallI isCall
  rw [okI_iff]
  constructor
  · rintro ⟨h, h1, h2⟩; rw [law_nul h] at h1; rw [law_rq h] at h2; exact ⟨h, h1, h2⟩
  · rintro ⟨h, h1, h2⟩; rw [← law_nul h] at h1; rw [← law_rq h] at h2; exact ⟨h, h1, h2⟩
def intB (c : Int) : Blk := ⟨[[.int .i64 c]], 1, 3⟩
theorem o30 (s : ByteArray) (c st : Int) {a b : Nat} {h : Heap} {n : Nat} (ha : h a = some (intB c)) (hb : h b = some (intB st)) (han : a < n) (hbn : b < n) :
    V.Open En 30 [.str s, .ptr a 0 0, .ptr b 0 0] h n (.bool (decide (isCallI c st s))) [] (n + 1) := by
  refine V.Open.of_wp Try.func30 rfl (Nat.le_of_ble_eq_true rfl) ?_
  refine wSeq ?_
  refine wRegion ?_
  refine raB rfl rfl rfl rfl rfl ?_
  refine rNil ?_
  refine qSeq ?_
  refine wSeq ?_
  refine wRegion ?_
  refine rmS rfl rfl rfl rfl rfl ?_
  refine rcl (p31w s) rfl rfl rfl rfl rfl rfl ?_
  refine rmT rfl rfl rfl rfl rfl ?_
  refine rex rfl rfl rfl rfl rfl rfl ?_
  refine rexB rfl rfl rfl rfl rfl rfl ?_ ?_ <;> intro h1_4
  · refine ral rfl rfl rfl rfl rfl rfl ?_
    (apply rst rfl rfl rfl; (first | rfl | assumption | ((simp (disch := omega) only [app, upd, hp, if_pos, if_neg]); first | rfl | assumption)); rfl; rfl; rfl; rfl; rfl; (exact Nat.le_of_ble_eq_true rfl); rfl; rfl; rfl)
    refine raB rfl rfl rfl rfl rfl ?_
    refine rNil ?_
    refine qSeq ?_
    refine wSeq ?_
    refine wRegion ?_
    refine rmB rfl rfl rfl rfl rfl ?_
    refine rmB rfl rfl rfl rfl rfl ?_
    refine rfa (off := 0) (s := 1) (r := false) rfl rfl rfl (Nat.succ_ne_zero _) rfl rfl rfl ?_
    ((apply rlcB rfl rfl; (first | rfl | assumption | ((simp (disch := omega) only [app, upd, hp, if_pos, if_neg]); first | rfl | assumption)); rfl; rfl; rfl; rfl; rfl; rfl)) <;> intro h2_3
    · refine rnot (c := true) rfl rfl rfl rfl rfl ?_
      refine rpk (e := false) rfl rfl rfl rfl rfl rfl ?_
      refine rmB rfl rfl rfl rfl rfl ?_
      refine rSkip rfl rfl rfl ?_
      refine rSkip rfl rfl rfl ?_
      refine rSkip rfl rfl rfl ?_
      refine rSkip rfl rfl rfl ?_
      refine rSkip rfl rfl rfl ?_
      refine rpk (e := false) rfl rfl rfl rfl rfl rfl ?_
      refine rmB rfl rfl rfl rfl rfl ?_
      refine rSkip rfl rfl rfl ?_
      refine rSkip rfl rfl rfl ?_
      refine rSkip rfl rfl rfl ?_
      refine rSkip rfl rfl rfl ?_
      refine rSkip rfl rfl rfl ?_
      refine rpk (e := false) rfl rfl rfl rfl rfl rfl ?_
      refine raB rfl rfl rfl rfl rfl ?_
      refine rNil ?_
      refine qSeq ?_
      refine wRet ?_
      first
        | (rw [decide_eq_true (show isCallI c st s from ⟨of_decide_eq_true h1_4, h2_3, h2_11, h2_18⟩)]; exact finO rfl rfl (fun hz => lessNew (lessNew (LessH.refl _) (hz _ (Nat.le_refl _))) (hz _ (Nat.le_refl _))) (Nat.le_refl _))
        | (rw [decide_eq_false (fun e : isCallI c st s => h2_18 e.2.2.2)]; exact finO rfl rfl (fun hz => lessNew (lessNew (LessH.refl _) (hz _ (Nat.le_refl _))) (hz _ (Nat.le_refl _))) (Nat.le_refl _))
        | (rw [decide_eq_false (fun e : isCallI c st s => h2_11 e.2.2.1)]; exact finO rfl rfl (fun hz => lessNew (lessNew (LessH.refl _) (hz _ (Nat.le_refl _))) (hz _ (Nat.le_refl _))) (Nat.le_refl _))
        | (rw [decide_eq_false (fun e : isCallI c st s => absurd (h2_3.symm.trans e.2.1) Bool.noConfusion)]; exact finO rfl rfl (fun hz => lessNew (lessNew (LessH.refl _) (hz _ (Nat.le_refl _))) (hz _ (Nat.le_refl _))) (Nat.le_refl _))
        | (rw [decide_eq_false (fun e : isCallI c st s => of_decide_eq_false h1_4 e.1)]; exact finO rfl rfl (fun hz => lessNew (lessNew (LessH.refl _) (hz _ (Nat.le_refl _))) (hz _ (Nat.le_refl _))) (Nat.le_refl _))
    · refine rnot (c := false) rfl rfl rfl rfl rfl ?_
      refine rpk (e := true) rfl rfl rfl rfl rfl rfl ?_
      refine rmB rfl rfl rfl rfl rfl ?_
      refine rfa (off := 1) (s := 5) (r := true) rfl rfl rfl (Nat.succ_ne_zero _) rfl rfl rfl ?_
      refine rfa (off := 0) (s := 1) (r := false) rfl rfl rfl (Nat.succ_ne_zero _) rfl rfl rfl ?_
      (apply rlc (v := .int _ _) rfl rfl; (first | rfl | assumption | ((simp (disch := omega) only [app, upd, hp, if_pos, if_neg]); first | rfl | assumption)); rfl; rfl; rfl; rfl; rfl; rfl)
      (apply rlc (v := .int _ _) rfl rfl; (first | rfl | assumption | ((simp (disch := omega) only [app, upd, hp, if_pos, if_neg]); first | rfl | assumption)); rfl; rfl; rfl; rfl; rfl; rfl)
      refine req rfl rfl rfl rfl rfl rfl ?_ ?_ <;> intro h2_11
      · refine rpk (e := true) rfl rfl rfl rfl rfl rfl ?_
        refine rmB rfl rfl rfl rfl rfl ?_
        refine rfa (off := 1) (s := 5) (r := true) rfl rfl rfl (Nat.succ_ne_zero _) rfl rfl rfl ?_
        refine rfa (off := 1) (s := 1) (r := false) rfl rfl rfl (Nat.succ_ne_zero _) rfl rfl rfl ?_
        (apply rlc (v := .int _ _) rfl rfl; (first | rfl | assumption | ((simp (disch := omega) only [app, upd, hp, if_pos, if_neg]); first | rfl | assumption)); rfl; rfl; rfl; rfl; rfl; rfl)
        (apply rlc (v := .int _ _) rfl rfl; (first | rfl | assumption | ((simp (disch := omega) only [app, upd, hp, if_pos, if_neg]); first | rfl | assumption)); rfl; rfl; rfl; rfl; rfl; rfl)
        refine req rfl rfl rfl rfl rfl rfl ?_ ?_ <;> intro h2_18
        · refine rpk (e := true) rfl rfl rfl rfl rfl rfl ?_
          refine raB rfl rfl rfl rfl rfl ?_
          refine rNil ?_
          refine qSeq ?_
          refine wRet ?_
          first
            | (rw [decide_eq_true (show isCallI c st s from ⟨of_decide_eq_true h1_4, h2_3, h2_11, h2_18⟩)]; exact finO rfl rfl (fun hz => lessNew (lessNew (LessH.refl _) (hz _ (Nat.le_refl _))) (hz _ (Nat.le_refl _))) (Nat.le_refl _))
            | (rw [decide_eq_false (fun e : isCallI c st s => h2_18 e.2.2.2)]; exact finO rfl rfl (fun hz => lessNew (lessNew (LessH.refl _) (hz _ (Nat.le_refl _))) (hz _ (Nat.le_refl _))) (Nat.le_refl _))
            | (rw [decide_eq_false (fun e : isCallI c st s => h2_11 e.2.2.1)]; exact finO rfl rfl (fun hz => lessNew (lessNew (LessH.refl _) (hz _ (Nat.le_refl _))) (hz _ (Nat.le_refl _))) (Nat.le_refl _))
            | (rw [decide_eq_false (fun e : isCallI c st s => absurd (h2_3.symm.trans e.2.1) Bool.noConfusion)]; exact finO rfl rfl (fun hz => lessNew (lessNew (LessH.refl _) (hz _ (Nat.le_refl _))) (hz _ (Nat.le_refl _))) (Nat.le_refl _))
            | (rw [decide_eq_false (fun e : isCallI c st s => of_decide_eq_false h1_4 e.1)]; exact finO rfl rfl (fun hz => lessNew (lessNew (LessH.refl _) (hz _ (Nat.le_refl _))) (hz _ (Nat.le_refl _))) (Nat.le_refl _))
        · refine rpk (e := false) rfl rfl rfl rfl rfl rfl ?_
          refine raB rfl rfl rfl rfl rfl ?_
          refine rNil ?_
          refine qSeq ?_
          refine wRet ?_
          first
            | (rw [decide_eq_true (show isCallI c st s from ⟨of_decide_eq_true h1_4, h2_3, h2_11, h2_18⟩)]; exact finO rfl rfl (fun hz => lessNew (lessNew (LessH.refl _) (hz _ (Nat.le_refl _))) (hz _ (Nat.le_refl _))) (Nat.le_refl _))
            | (rw [decide_eq_false (fun e : isCallI c st s => h2_18 e.2.2.2)]; exact finO rfl rfl (fun hz => lessNew (lessNew (LessH.refl _) (hz _ (Nat.le_refl _))) (hz _ (Nat.le_refl _))) (Nat.le_refl _))
            | (rw [decide_eq_false (fun e : isCallI c st s => h2_11 e.2.2.1)]; exact finO rfl rfl (fun hz => lessNew (lessNew (LessH.refl _) (hz _ (Nat.le_refl _))) (hz _ (Nat.le_refl _))) (Nat.le_refl _))
            | (rw [decide_eq_false (fun e : isCallI c st s => absurd (h2_3.symm.trans e.2.1) Bool.noConfusion)]; exact finO rfl rfl (fun hz => lessNew (lessNew (LessH.refl _) (hz _ (Nat.le_refl _))) (hz _ (Nat.le_refl _))) (Nat.le_refl _))
            | (rw [decide_eq_false (fun e : isCallI c st s => of_decide_eq_false h1_4 e.1)]; exact finO rfl rfl (fun hz => lessNew (lessNew (LessH.refl _) (hz _ (Nat.le_refl _))) (hz _ (Nat.le_refl _))) (Nat.le_refl _))
      · refine rpk (e := false) rfl rfl rfl rfl rfl rfl ?_
        refine rmB rfl rfl rfl rfl rfl ?_
        refine rSkip rfl rfl rfl ?_
        refine rSkip rfl rfl rfl ?_
        refine rSkip rfl rfl rfl ?_
        refine rSkip rfl rfl rfl ?_
        refine rSkip rfl rfl rfl ?_
        refine rpk (e := false) rfl rfl rfl rfl rfl rfl ?_
        refine raB rfl rfl rfl rfl rfl ?_
        refine rNil ?_
        refine qSeq ?_
        refine wRet ?_
        first
          | (rw [decide_eq_true (show isCallI c st s from ⟨of_decide_eq_true h1_4, h2_3, h2_11, h2_18⟩)]; exact finO rfl rfl (fun hz => lessNew (lessNew (LessH.refl _) (hz _ (Nat.le_refl _))) (hz _ (Nat.le_refl _))) (Nat.le_refl _))
          | (rw [decide_eq_false (fun e : isCallI c st s => h2_18 e.2.2.2)]; exact finO rfl rfl (fun hz => lessNew (lessNew (LessH.refl _) (hz _ (Nat.le_refl _))) (hz _ (Nat.le_refl _))) (Nat.le_refl _))
          | (rw [decide_eq_false (fun e : isCallI c st s => h2_11 e.2.2.1)]; exact finO rfl rfl (fun hz => lessNew (lessNew (LessH.refl _) (hz _ (Nat.le_refl _))) (hz _ (Nat.le_refl _))) (Nat.le_refl _))
          | (rw [decide_eq_false (fun e : isCallI c st s => absurd (h2_3.symm.trans e.2.1) Bool.noConfusion)]; exact finO rfl rfl (fun hz => lessNew (lessNew (LessH.refl _) (hz _ (Nat.le_refl _))) (hz _ (Nat.le_refl _))) (Nat.le_refl _))
          | (rw [decide_eq_false (fun e : isCallI c st s => of_decide_eq_false h1_4 e.1)]; exact finO rfl rfl (fun hz => lessNew (lessNew (LessH.refl _) (hz _ (Nat.le_refl _))) (hz _ (Nat.le_refl _))) (Nat.le_refl _))
  · refine ral rfl rfl rfl rfl rfl rfl ?_
    (apply rst rfl rfl rfl; (first | rfl | assumption | ((simp (disch := omega) only [app, upd, hp, if_pos, if_neg]); first | rfl | assumption)); rfl; rfl; rfl; rfl; rfl; (exact Nat.le_of_ble_eq_true rfl); rfl; rfl; rfl)
    refine raB rfl rfl rfl rfl rfl ?_
    refine rNil ?_
    refine qSeq ?_
    refine wSeq ?_
    refine wRegion ?_
    refine rmB rfl rfl rfl rfl rfl ?_
    refine rmB rfl rfl rfl rfl rfl ?_
    refine rSkip rfl rfl rfl ?_
    refine rSkip rfl rfl rfl ?_
    refine rSkip rfl rfl rfl ?_
    refine rpk (e := false) rfl rfl rfl rfl rfl rfl ?_
    refine rmB rfl rfl rfl rfl rfl ?_
    refine rSkip rfl rfl rfl ?_
    refine rSkip rfl rfl rfl ?_
    refine rSkip rfl rfl rfl ?_
    refine rSkip rfl rfl rfl ?_
    refine rSkip rfl rfl rfl ?_
    refine rpk (e := false) rfl rfl rfl rfl rfl rfl ?_
    refine rmB rfl rfl rfl rfl rfl ?_
    refine rSkip rfl rfl rfl ?_
    refine rSkip rfl rfl rfl ?_
    refine rSkip rfl rfl rfl ?_
    refine rSkip rfl rfl rfl ?_
    refine rSkip rfl rfl rfl ?_
    refine rpk (e := false) rfl rfl rfl rfl rfl rfl ?_
    refine raB rfl rfl rfl rfl rfl ?_
    refine rNil ?_
    refine qSeq ?_
    refine wRet ?_
    first
      | (rw [decide_eq_true (show isCallI c st s from ⟨of_decide_eq_true h1_4, h2_3, h2_11, h2_18⟩)]; exact finO rfl rfl (fun hz => lessNew (lessNew (LessH.refl _) (hz _ (Nat.le_refl _))) (hz _ (Nat.le_refl _))) (Nat.le_refl _))
      | (rw [decide_eq_false (fun e : isCallI c st s => h2_18 e.2.2.2)]; exact finO rfl rfl (fun hz => lessNew (lessNew (LessH.refl _) (hz _ (Nat.le_refl _))) (hz _ (Nat.le_refl _))) (Nat.le_refl _))
      | (rw [decide_eq_false (fun e : isCallI c st s => h2_11 e.2.2.1)]; exact finO rfl rfl (fun hz => lessNew (lessNew (LessH.refl _) (hz _ (Nat.le_refl _))) (hz _ (Nat.le_refl _))) (Nat.le_refl _))
      | (rw [decide_eq_false (fun e : isCallI c st s => absurd (h2_3.symm.trans e.2.1) Bool.noConfusion)]; exact finO rfl rfl (fun hz => lessNew (lessNew (LessH.refl _) (hz _ (Nat.le_refl _))) (hz _ (Nat.le_refl _))) (Nat.le_refl _))
      | (rw [decide_eq_false (fun e : isCallI c st s => of_decide_eq_false h1_4 e.1)]; exact finO rfl rfl (fun hz => lessNew (lessNew (LessH.refl _) (hz _ (Nat.le_refl _))) (hz _ (Nat.le_refl _))) (Nat.le_refl _))
theorem firstIx_congr {p q : ByteArray → Prop} [DecidablePred p] [DecidablePred q] (h : ∀ s, p s ↔ q s) (L : List ByteArray) : firstIx p L = firstIx q L := by
  induction L with
  | nil => rfl
  | cons x l ih => simp only [firstIx, ih, h x]
theorem p18 (nn : Bool) (L : List ByteArray) (c st : Int) (hL : L.length ≤ 1048576) : Pure En 18 [.one (.sl nn (strs L)), .one (.int .i64 c), .one (.int .i64 st)] [.one (.int .i64 (firstIx (isCall c st) L))] := by
  have e : firstIx (isCall c st) L = firstIx (fun s => decide (isCallI c st s) = true) L := firstIx_congr (fun s => by rw [decide_eq_true_iff, isCallI_iff]) L
  rw [e]
  refine Pure.of_wp Try.func18 rfl (Nat.le_of_ble_eq_true rfl) ?_
  refine wSeq ?_
  refine wRegion ?_
  refine rbx (u := .int _ _) rfl rfl rfl rfl rfl rfl rfl ?_
  refine rbx (u := .int _ _) rfl rfl rfl rfl rfl rfl rfl ?_
  refine raI rfl rfl rfl rfl rfl ?_
  refine rNil ?_
  refine qSeq ?_
  refine wSeq ?_
  refine wRegion ?_
  refine rmL rfl rfl rfl rfl rfl ?_
  refine rmf rfl rfl rfl rfl rfl ?_
  refine rop (o29 false nn L (fun s => decide (isCallI c st s)) 1 hL (fun s m hm => o30 s c st rfl rfl (by omega) (by omega))) rfl rfl rfl rfl rfl rfl ?_
  refine raI rfl rfl rfl rfl rfl ?_
  refine rNil ?_
  refine qSeq ?_
  refine wRet ?_
  exact fin rfl rfl
end Go.Proofs.Ytnkpjlpappmccaa
