import Derived.Test.YtnkpjlpappmccaaDoorD6
namespace Go.Proofs.YtnkpjlpappmccaaDoor
open Go.V
set_option linter.unusedVariables false
set_option linter.unusedSimpArgs false
set_option maxRecDepth 20000
set_option maxHeartbeats 4000000

/-! A source of choices. -/
def srcB (fr nn : Bool) (B : List Int) (k sd : Int) : Blk := ⟨[[.sl fr nn (B.map bT), .int .i64 k, .int .i64 sd]], 3, 64⟩
def sdOK (sd : Int) : Prop := 0 ≤ sd ∧ sd < 2147483648

theorem o13 (fr nn : Bool) (B : List Int) {h : Heap} {n : Nat} : ∃ sd : Int, sdOK sd ∧ V.Open En 13 [.sl fr nn (B.map bT)] h n (.ptr n 0 0) [(n, some (srcB fr nn B 0 sd))] (n + 1) := by
  refine V.Open.of_wpX (v := fun _ => .ptr n 0 0) (wr := fun sd => [(n, some (srcB fr nn B 0 sd))]) (m := fun _ => n + 1) Tryd.func13 rfl (Nat.le_of_ble_eq_true rfl) ?_
  refine wSeq ?_
  refine wRegion ?_
  refine raZ rfl rfl rfl rfl rfl ?_
  refine rNil ?_
  refine qSeq ?_
  refine wSeq ?_
  refine wRegion ?_
  refine rmL rfl rfl rfl rfl rfl ?_
  refine rmL rfl rfl rfl rfl rfl ?_
  refine rll rfl rfl rfl rfl rfl rfl ?_
  refine rrem rfl rfl rfl ?_ rfl rfl rfl ?_
  · (first | omega | assumption | (focus (simp; omega)))
  refine rbd (cs := [_, .int _ _, .int _ _]) rfl rfl rfl rfl rfl ?_
  refine rbx (u := .agg [_, .int _ _, .int _ _]) rfl rfl rfl rfl rfl rfl rfl ?_
  refine raP rfl rfl rfl rfl rfl ?_
  refine rNil ?_
  refine qSeq ?_
  refine wRet ?_
  exact ⟨_, by have := tmod_b (a := ((B.map bT).length : Int)) (b := 1000) (by omega) (by omega); unfold sdOK; omega, finO rfl rfl (fun _ _ _ e => e) (Nat.le_refl _)⟩

theorem wrap_q {x : Int} (h1 : 0 ≤ x) (h2 : x < 2147483648) : 0 ≤ IntKind.i64.wrap (x.tdiv 65536) := by
  have h3 : 0 ≤ x.tdiv 65536 := Int.tdiv_nonneg h1 (by decide)
  have h4 : x.tdiv 65536 ≤ x := Int.tdiv_le_self _ h1
  rw [wrap_fits (by omega) (by omega)]; exact h3

theorem o42 (fr nn : Bool) (B : List Int) (hB : bytes B) (hL : B.length ≤ 1048577) (k sd : Int) (hk : 0 ≤ k ∧ k ≤ 1000000) (hs : sdOK sd) {id : Nat} {h : Heap} {n : Nat} (hid : id < n) (hh : h id = some (srcB fr nn B k sd)) :
    ∃ r : Int × Int, (0 ≤ r.1 ∧ r.1 ≤ 255 ∧ sdOK r.2) ∧ V.Open En 42 [.ptr id 0 0] h n (.int .i64 r.1) [(id, some (srcB fr nn B (k + 1) r.2))] n := by
  have hl : (B.map bT).length = B.length := List.length_map ..
  have g := hB.get k.toNat
  have g' := hB.get (k + 1 - 1).toNat
  unfold sdOK at hs
  unfold srcB at hh
  refine V.Open.of_wpX (v := fun r : Int × Int => .int .i64 r.1) (wr := fun r : Int × Int => [(id, some (srcB fr nn B (k + 1) r.2))]) (m := fun _ => n) Tryd.func42 rfl (Nat.le_of_ble_eq_true rfl) ?_
  refine wSeq ?_
  refine wRegion ?_
  refine raI rfl rfl rfl rfl rfl ?_
  refine rNil ?_
  refine qSeq ?_
  refine wSeq ?_
  refine wRegion ?_
  refine rmP rfl rfl rfl rfl rfl ?_
  refine rnc (v := .ptr _ _ _) rfl rfl rfl rfl rfl rfl ?_
  refine rfa (off := 1) (s := 1) (r := false) rfl rfl rfl (Nat.succ_ne_zero _) rfl rfl rfl ?_
  (apply rlc (v := .int _ _) rfl rfl; (first | ((simp (disch := omega) only [↓app0, ↓appC, ↓updS, ↓updN, ↓hpS, ↓hpN]) <;> first | rfl | assumption) | assumption | rfl); rfl; rfl; rfl; rfl; rfl; rfl)
  refine raddF rfl rfl rfl ?_ ?_ rfl rfl rfl ?_
  · (first | omega | assumption | (focus (simp; omega)))
  · (first | omega | assumption | (focus (simp; omega)))
  refine rnc (v := .ptr _ _ _) rfl rfl rfl rfl rfl rfl ?_
  refine rfa (off := 1) (s := 1) (r := false) rfl rfl rfl (Nat.succ_ne_zero _) rfl rfl rfl ?_
  (apply rst (u := .int _ _) rfl rfl rfl; (first | ((simp (disch := omega) only [↓app0, ↓appC, ↓updS, ↓updN, ↓hpS, ↓hpN]) <;> first | rfl | assumption) | assumption | rfl); rfl; rfl; rfl; rfl; rfl; (exact Nat.le_of_ble_eq_true rfl); rfl; rfl; rfl)
  refine rNil ?_
  refine qSeq ?_
  refine wSeq ?_
  refine wSeq ?_
  refine wDraw [0, 1, 3, 7, 0, 16, 48, 112, 240, 511] rfl (by decide +kernel) ?_
  refine dmP rfl rfl rfl rfl rfl ?_
  refine dnc (v := .ptr _ _ _) rfl rfl rfl rfl rfl rfl ?_
  refine dfa (off := 1) (s := 1) (r := false) rfl rfl rfl (Nat.succ_ne_zero _) rfl rfl rfl ?_
  (apply dlc (v := .int _ _) rfl rfl; (first | ((simp (disch := omega) only [↓app0, ↓appC, ↓updS, ↓updN, ↓hpS, ↓hpN]) <;> first | rfl | assumption) | assumption | rfl); rfl; rfl; rfl; rfl; rfl; rfl)
  refine dmP rfl rfl rfl rfl rfl ?_
  refine dnc (v := .ptr _ _ _) rfl rfl rfl rfl rfl rfl ?_
  refine dfa (off := 0) (s := 1) (r := false) rfl rfl rfl (Nat.succ_ne_zero _) rfl rfl rfl ?_
  (apply dlc (v := .sl _ _ _) rfl rfl; (first | ((simp (disch := omega) only [↓app0, ↓appC, ↓updS, ↓updN, ↓hpS, ↓hpN]) <;> first | rfl | assumption) | assumption | rfl); rfl; rfl; rfl; rfl; rfl; rfl)
  refine dll rfl rfl rfl rfl rfl rfl ?_
  refine dle rfl rfl rfl rfl rfl rfl ?_ ?_ <;> intro h2_9
  · refine dNilR 10 [0, 0, 1, 0, 0, 0, 1, 0, 0, 0] [] rfl rfl (by decide +kernel) trivial ?_
    refine qSeq ?_
    refine wT rfl ?_
    refine wSeq ?_
    refine wDraw [0, 0, 2, 6, 14, 30, 0, 64, 192, 448, 0, 1024, 3072, 7168, 15360, 32704, 65472, 131008, 262142, 524286, 1048574, 2097151, 4194303, 8388607] rfl (by decide +kernel) ?_
    refine dmP rfl rfl rfl rfl rfl ?_
    refine dmP rfl rfl rfl rfl rfl ?_
    refine dnc (v := .ptr _ _ _) rfl rfl rfl rfl rfl rfl ?_
    refine dfa (off := 2) (s := 1) (r := false) rfl rfl rfl (Nat.succ_ne_zero _) rfl rfl rfl ?_
    (apply dlc (v := .int _ _) rfl rfl; (first | ((simp (disch := omega) only [↓app0, ↓appC, ↓updS, ↓updN, ↓hpS, ↓hpN]) <;> first | rfl | assumption) | assumption | rfl); rfl; rfl; rfl; rfl; rfl; rfl)
    refine dmulF rfl rfl rfl ?_ ?_ rfl rfl rfl ?_
    · (first | omega | assumption | (focus (simp; omega)))
    · (first | omega | assumption | (focus (simp; omega)))
    refine dmP rfl rfl rfl rfl rfl ?_
    refine dnc (v := .ptr _ _ _) rfl rfl rfl rfl rfl rfl ?_
    refine dfa (off := 0) (s := 1) (r := false) rfl rfl rfl (Nat.succ_ne_zero _) rfl rfl rfl ?_
    (apply dlc (v := .sl _ _ _) rfl rfl; (first | ((simp (disch := omega) only [↓app0, ↓appC, ↓updS, ↓updN, ↓hpS, ↓hpN]) <;> first | rfl | assumption) | assumption | rfl); rfl; rfl; rfl; rfl; rfl; rfl)
    refine dmP rfl rfl rfl rfl rfl ?_
    refine dnc (v := .ptr _ _ _) rfl rfl rfl rfl rfl rfl ?_
    refine dfa (off := 1) (s := 1) (r := false) rfl rfl rfl (Nat.succ_ne_zero _) rfl rfl rfl ?_
    (apply dlc (v := .int _ _) rfl rfl; (first | ((simp (disch := omega) only [↓app0, ↓appC, ↓updS, ↓updN, ↓hpS, ↓hpN]) <;> first | rfl | assumption) | assumption | rfl); rfl; rfl; rfl; rfl; rfl; rfl)
    refine dsubF rfl rfl rfl ?_ ?_ rfl rfl rfl ?_
    · (first | omega | assumption | (focus (simp; omega)))
    · (first | omega | assumption | (focus (simp; omega)))
    (apply dixl rfl rfl rfl rfl; (first | omega | assumption | (focus (simp; omega))); (first | rfl | assumption | (exact mapGet bT 0 (by omega))); rfl; rfl; rfl; rfl)
    refine dlic (v := .int _ _) rfl rfl rfl rfl rfl rfl rfl rfl ?_
    refine dcvF rfl rfl rfl rfl ?_ ?_ rfl rfl rfl ?_
    · (first | exact bt_ge _ _ | exact bt_le _ _ | omega | (first | omega | assumption | (focus (simp; omega))))
    · (first | exact bt_ge _ _ | exact bt_le _ _ | omega | (first | omega | assumption | (focus (simp; omega))))
    refine daddF rfl rfl rfl ?_ ?_ rfl rfl rfl ?_
    · (first | omega | assumption | (focus (simp; omega)))
    · (first | omega | assumption | (focus (simp; omega)))
    refine daddF rfl rfl rfl ?_ ?_ rfl rfl rfl ?_
    · (first | omega | assumption | (focus (simp; omega)))
    · (first | omega | assumption | (focus (simp; omega)))
    refine drem rfl rfl rfl ?_ rfl rfl rfl ?_
    · (first | omega | assumption | (focus (simp; omega)))
    refine dnc (v := .ptr _ _ _) rfl rfl rfl rfl rfl rfl ?_
    refine dfa (off := 2) (s := 1) (r := false) rfl rfl rfl (Nat.succ_ne_zero _) rfl rfl rfl ?_
    (apply dst (u := .int _ _) rfl rfl rfl; (first | ((simp (disch := omega) only [↓app0, ↓appC, ↓updS, ↓updN, ↓hpS, ↓hpN]) <;> first | rfl | assumption) | assumption | rfl); rfl; rfl; rfl; rfl; rfl; (exact Nat.le_of_ble_eq_true rfl); rfl; rfl; rfl)
    refine dNilR 24 [3, 0, 0, 0, 0, 0, 0, 0, 0, 0, 1, 0, 0, 0, 1, 0, 0, 0, 0, 1, 0, 0, 0, 0] [] rfl rfl (by decide +kernel) trivial ?_
    refine qSeq ?_
    refine wSeq ?_
    refine wDraw [0, 1, 3, 7, 0, 16, 48, 112, 240, 511, 1023, 2047, 4095] rfl (by decide +kernel) ?_
    refine dmP rfl rfl rfl rfl rfl ?_
    refine dnc (v := .ptr _ _ _) rfl rfl rfl rfl rfl rfl ?_
    refine dfa (off := 0) (s := 1) (r := false) rfl rfl rfl (Nat.succ_ne_zero _) rfl rfl rfl ?_
    (apply dlc (v := .sl _ _ _) rfl rfl; (first | ((simp (disch := omega) only [↓app0, ↓appC, ↓updS, ↓updN, ↓hpS, ↓hpN]) <;> first | rfl | assumption) | assumption | rfl); rfl; rfl; rfl; rfl; rfl; rfl)
    refine dmP rfl rfl rfl rfl rfl ?_
    refine dnc (v := .ptr _ _ _) rfl rfl rfl rfl rfl rfl ?_
    refine dfa (off := 1) (s := 1) (r := false) rfl rfl rfl (Nat.succ_ne_zero _) rfl rfl rfl ?_
    (apply dlc (v := .int _ _) rfl rfl; (first | ((simp (disch := omega) only [↓app0, ↓appC, ↓updS, ↓updN, ↓hpS, ↓hpN]) <;> first | rfl | assumption) | assumption | rfl); rfl; rfl; rfl; rfl; rfl; rfl)
    refine dsubF rfl rfl rfl ?_ ?_ rfl rfl rfl ?_
    · (first | omega | assumption | (focus (simp; omega)))
    · (first | omega | assumption | (focus (simp; omega)))
    (apply dixl rfl rfl rfl rfl; (first | omega | assumption | (focus (simp; omega))); (first | rfl | assumption | (exact mapGet bT 0 (by omega))); rfl; rfl; rfl; rfl)
    refine dlic (v := .int _ _) rfl rfl rfl rfl rfl rfl rfl rfl ?_
    refine dcvF rfl rfl rfl rfl ?_ ?_ rfl rfl rfl ?_
    · (first | exact bt_ge _ _ | exact bt_le _ _ | omega | (first | omega | assumption | (focus (simp; omega))))
    · (first | exact bt_ge _ _ | exact bt_le _ _ | omega | (first | omega | assumption | (focus (simp; omega))))
    refine daI rfl rfl rfl rfl rfl ?_
    refine dNilR 13 [0, 0, 0, 0, 0, 1, 0, 0, 0, 1, 0, 0, 0] [] rfl rfl (by decide +kernel) trivial ?_
    refine qSeq ?_
    refine wRet ?_
    refine qSeqR ?_
    refine ⟨(_, _), ⟨g'.1, g'.2, ?_⟩, finO rfl rfl (fun hz j b hj => by
      by_cases e : j = id
      · subst e; simp (disch := omega) only [↓app0, ↓appC, ↓updS, ↓updN] at hj ⊢; exact hj
      · have hj2 : h j = some b := (upd_ne h _ e).symm.trans hj
        have : j < n := by
          rcases Nat.lt_or_ge j n with h1 | h1
          · exact h1
          · rw [hz j h1] at hj2; cases hj2
        simp (disch := omega) only [↓app0, ↓appC, ↓updN]; exact hj2) (Nat.le_refl _)⟩
    have := tmod_b (a := sd * 31 + B.getD (k + 1 - 1).toNat 0 + 7) (b := 2147483648) (by omega) (by omega)
    exact this
  · refine dNilR 10 [0, 0, 1, 0, 0, 0, 1, 0, 0, 0] [] rfl rfl (by decide +kernel) trivial ?_
    refine qSeq ?_
    refine wF rfl ?_
    refine wSkip ?_
    refine qSeq ?_
    refine wSeq ?_
    refine wSeq ?_
    refine wRegion ?_
    refine rmP rfl rfl rfl rfl rfl ?_
    refine rnc (v := .ptr _ _ _) rfl rfl rfl rfl rfl rfl ?_
    refine rfa (off := 1) (s := 1) (r := false) rfl rfl rfl (Nat.succ_ne_zero _) rfl rfl rfl ?_
    (apply rlc (v := .int _ _) rfl rfl; (first | ((simp (disch := omega) only [↓app0, ↓appC, ↓updS, ↓updN, ↓hpS, ↓hpN]) <;> first | rfl | assumption) | assumption | rfl); rfl; rfl; rfl; rfl; rfl; rfl)
    refine rgt rfl rfl rfl rfl rfl rfl ?_ ?_ <;> intro h5_4
    · refine rNil ?_
      refine qSeq ?_
      refine wT rfl ?_
      refine wSeq ?_
      refine wRegion ?_
      refine raI rfl rfl rfl rfl rfl ?_
      refine rNil ?_
      refine qSeq ?_
      refine wRet ?_
      refine qSeqR ?_
      exact ⟨(0, sd), ⟨Int.le_refl _, (by dsimp only; omega), hs⟩, finO rfl rfl (fun hz j b hj => by
        by_cases e : j = id
        · subst e; simp (disch := omega) only [↓app0, ↓appC, ↓updS, ↓updN] at hj ⊢; exact hj
        · have hj2 : h j = some b := (upd_ne h _ e).symm.trans hj
          have : j < n := by
            rcases Nat.lt_or_ge j n with h1 | h1
            · exact h1
            · rw [hz j h1] at hj2; cases hj2
          simp (disch := omega) only [↓app0, ↓appC, ↓updN]; exact hj2) (Nat.le_refl _)⟩
    · refine rNil ?_
      refine qSeq ?_
      refine wF rfl ?_
      refine wSkip ?_
      refine qSeq ?_
      refine wSeq ?_
      refine wRegion ?_
      refine rmP rfl rfl rfl rfl rfl ?_
      refine rmP rfl rfl rfl rfl rfl ?_
      refine rnc (v := .ptr _ _ _) rfl rfl rfl rfl rfl rfl ?_
      refine rfa (off := 2) (s := 1) (r := false) rfl rfl rfl (Nat.succ_ne_zero _) rfl rfl rfl ?_
      (apply rlc (v := .int _ _) rfl rfl; (first | ((simp (disch := omega) only [↓app0, ↓appC, ↓updS, ↓updN, ↓hpS, ↓hpN]) <;> first | rfl | assumption) | assumption | rfl); rfl; rfl; rfl; rfl; rfl; rfl)
      refine rmulF rfl rfl rfl ?_ ?_ rfl rfl rfl ?_
      · (first | omega | assumption | (focus (simp; omega)))
      · (first | omega | assumption | (focus (simp; omega)))
      refine raddF rfl rfl rfl ?_ ?_ rfl rfl rfl ?_
      · (first | omega | assumption | (focus (simp; omega)))
      · (first | omega | assumption | (focus (simp; omega)))
      refine rrem rfl rfl rfl ?_ rfl rfl rfl ?_
      · (first | omega | assumption | (focus (simp; omega)))
      refine rnc (v := .ptr _ _ _) rfl rfl rfl rfl rfl rfl ?_
      refine rfa (off := 2) (s := 1) (r := false) rfl rfl rfl (Nat.succ_ne_zero _) rfl rfl rfl ?_
      (apply rst (u := .int _ _) rfl rfl rfl; (first | ((simp (disch := omega) only [↓app0, ↓appC, ↓updS, ↓updN, ↓hpS, ↓hpN]) <;> first | rfl | assumption) | assumption | rfl); rfl; rfl; rfl; rfl; rfl; (exact Nat.le_of_ble_eq_true rfl); rfl; rfl; rfl)
      refine rNil ?_
      refine qSeq ?_
      refine wSeq ?_
      refine wRegion ?_
      refine rmP rfl rfl rfl rfl rfl ?_
      refine rnc (v := .ptr _ _ _) rfl rfl rfl rfl rfl rfl ?_
      refine rfa (off := 2) (s := 1) (r := false) rfl rfl rfl (Nat.succ_ne_zero _) rfl rfl rfl ?_
      (apply rlc (v := .int _ _) rfl rfl; (first | ((simp (disch := omega) only [↓app0, ↓appC, ↓updS, ↓updN, ↓hpS, ↓hpN]) <;> first | rfl | assumption) | assumption | rfl); rfl; rfl; rfl; rfl; rfl; rfl)
      refine rquo rfl rfl rfl ?_ rfl rfl rfl ?_
      · omega
      refine rrem rfl rfl rfl ?_ rfl rfl rfl ?_
      · (first | omega | assumption | (focus (simp; omega)))
      refine raI rfl rfl rfl rfl rfl ?_
      refine rNil ?_
      refine qSeq ?_
      refine wRet ?_
      have q := tmod_b (a := sd * 1103515245 + 12345) (b := 2147483648) (by omega) (by omega)
      refine ⟨(_, _), ⟨?_, ?_, q⟩, finO rfl rfl (fun hz j b hj => by
        by_cases e : j = id
        · subst e; simp (disch := omega) only [↓app0, ↓appC, ↓updS, ↓updN] at hj ⊢; exact hj
        · have hj2 : h j = some b := (upd_ne h _ e).symm.trans hj
          have : j < n := by
            rcases Nat.lt_or_ge j n with h1 | h1
            · exact h1
            · rw [hz j h1] at hj2; cases hj2
          simp (disch := omega) only [↓app0, ↓appC, ↓updN]; exact hj2) (Nat.le_refl _)⟩
      · exact (tmod_b (b := 256) (wrap_q q.1 q.2) (by omega)).1
      · exact Int.le_of_lt_add_one (tmod_b (b := 256) (wrap_q q.1 q.2) (by omega)).2

theorem o29 (fr nn : Bool) (B : List Int) (hB : bytes B) (hL : B.length ≤ 1048577) (k sd m : Int) (hk : 0 ≤ k ∧ k ≤ 1000000) (hs : sdOK sd) (hm : 2 ≤ m ∧ m ≤ 256) {id : Nat} {h : Heap} {n : Nat} (hid : id < n) (hh : h id = some (srcB fr nn B k sd)) :
    ∃ r : Int × Int, ((0 ≤ r.1 ∧ r.1 < m) ∧ sdOK r.2) ∧ V.Open En 29 [.ptr id 0 0, .int .i64 m] h n (.int .i64 r.1) [(id, some (srcB fr nn B (k + 1) r.2))] n := by
  refine V.Open.of_wpX (v := fun r : Int × Int => .int .i64 r.1) (wr := fun r : Int × Int => [(id, some (srcB fr nn B (k + 1) r.2))]) (m := fun _ => n) Tryd.func29 rfl (Nat.le_of_ble_eq_true rfl) ?_
  refine wSeq ?_
  refine wRegion ?_
  refine raI rfl rfl rfl rfl rfl ?_
  refine rNil ?_
  refine qSeq ?_
  refine wSeq ?_
  refine wSeq ?_
  refine wRegion ?_
  refine rmI rfl rfl rfl rfl rfl ?_
  refine rle rfl rfl rfl rfl rfl rfl ?_ ?_ <;> intro h1_1
  · refine rNil ?_
    refine qSeq ?_
    refine wT rfl ?_
    refine wSeq ?_
    exact absurd h1_1 (by omega)
  · refine rNil ?_
    refine qSeq ?_
    refine wF rfl ?_
    refine wSkip ?_
    refine qSeq ?_
    refine wSeq ?_
    refine wSeq ?_
    refine wRegion ?_
    refine rmI rfl rfl rfl rfl rfl ?_
    refine rle rfl rfl rfl rfl rfl rfl ?_ ?_ <;> intro h3_1
    · refine rNil ?_
      refine qSeq ?_
      refine wT rfl ?_
      refine wSeq ?_
      refine wRegion ?_
      refine rmP rfl rfl rfl rfl rfl ?_
      refine ropX (o42 fr nn B hB hL k sd hk hs hid hh) rfl rfl rfl rfl rfl rfl ?_
      rintro ⟨v, s2⟩ h4_1
      try dsimp only at h4_1
      refine rmI rfl rfl rfl rfl rfl ?_
      refine rrem rfl rfl rfl ?_ rfl rfl rfl ?_
      · (first | omega | assumption | (focus (simp; omega)))
      refine raI rfl rfl rfl rfl rfl ?_
      refine rNil ?_
      refine qSeq ?_
      refine wRet ?_
      refine qSeqR ?_
      exact ⟨(v.tmod m, s2), ⟨tmod_b h4_1.1 (by omega), h4_1.2.2⟩, finO rfl rfl (fun _ _ _ e => e) (Nat.le_refl _)⟩
    · refine rNil ?_
      refine qSeq ?_
      refine wF rfl ?_
      refine wSkip ?_
      refine qSeq ?_
      refine wSeq ?_
      exact absurd hm.2 h3_1

def sV (s : ByteArray) : List V := [.str s]
theorem o30 (fr nn : Bool) (B : List Int) (hB : bytes B) (hL : B.length ≤ 1048577) (k sd : Int) (a b c : ByteArray) (hk : 0 ≤ k ∧ k ≤ 1000000) (hs : sdOK sd) {id id2 : Nat} {h : Heap} {n : Nat} (hid : id < n) (hne : id ≠ id2) (hh : h id = some (srcB fr nn B k sd))
    (hh2 : h id2 = some ⟨[a, b, c].map sV, 1, 9⟩) :
    ∃ r : ByteArray × Int, (r.1 ∈ [a, b, c] ∧ sdOK r.2) ∧ V.Open En 30 [.ptr id 0 0, .view id2 0 3] h n (.str r.1) [(id, some (srcB fr nn B (k + 1) r.2))] n := by
  refine V.Open.of_wpX (v := fun r : ByteArray × Int => .str r.1) (wr := fun r : ByteArray × Int => [(id, some (srcB fr nn B (k + 1) r.2))]) (m := fun _ => n) Tryd.func30 rfl (Nat.le_of_ble_eq_true rfl) ?_
  refine wSeq ?_
  refine wRegion ?_
  refine raS rfl rfl rfl rfl rfl ?_
  refine rNil ?_
  refine qSeq ?_
  refine wSeq ?_
  refine wSeq ?_
  refine wRegion ?_
  refine rmV rfl rfl rfl rfl rfl ?_
  refine rll rfl rfl rfl rfl rfl rfl ?_
  refine req rfl rfl rfl rfl rfl rfl ?_ ?_ <;> intro h1_2
  · refine rNil ?_
    refine qSeq ?_
    refine wT rfl ?_
    refine wSeq ?_
    exact absurd h1_2 (by omega)
  · refine rNil ?_
    refine qSeq ?_
    refine wF rfl ?_
    refine wSkip ?_
    refine qSeq ?_
    refine wSeq ?_
    refine wRegion ?_
    refine rmV rfl rfl rfl rfl rfl ?_
    refine rmP rfl rfl rfl rfl rfl ?_
    refine rmV rfl rfl rfl rfl rfl ?_
    refine rll rfl rfl rfl rfl rfl rfl ?_
    refine ropX (o29 fr nn B hB hL k sd 3 hk hs (by decide) hid hh) rfl rfl rfl rfl rfl rfl ?_
    rintro ⟨v, s2⟩ h3_4
    try dsimp only at h3_4
    (apply rixv rfl rfl rfl rfl; (first | ((simp (disch := omega) only [↓app0, ↓appC, ↓updS, ↓updN, ↓hpS, ↓hpN]) <;> first | rfl | assumption) | assumption | rfl); rfl; (first | omega | assumption | (focus (simp; omega))); (first | omega | assumption | (focus (simp; omega))); rfl; rfl; rfl)
    (apply rlc (v := .str _) rfl rfl; (simp (disch := omega) only [↓app0, ↓appC, ↓updS, ↓updN]; exact hh2); exact mapGet sV ⟨#[]⟩ (show 0 + v.toNat < 3 by omega); rfl; rfl; rfl; rfl; rfl)
    refine raS rfl rfl rfl rfl rfl ?_
    refine rNil ?_
    refine qSeq ?_
    refine wRet ?_
    exact ⟨([a, b, c].getD (0 + v.toNat) ⟨#[]⟩, s2), ⟨by
      have hv : 0 + v.toNat < [a, b, c].length := (show 0 + v.toNat < 3 by omega)
      dsimp only
      rw [List.getD_eq_getElem?_getD, List.getElem?_eq_getElem hv]
      exact List.getElem_mem _, h3_4.2⟩, finO rfl rfl (fun _ _ _ e => e) (Nat.le_refl _)⟩

def nmA : ByteArray := ⟨#[97]⟩
def nmB : ByteArray := ⟨#[98]⟩
def nmL : ByteArray := ⟨#[108, 111, 99, 107]⟩
def Rq.good (r : Rq) : Prop := (0 ≤ r.cl ∧ r.cl ≤ 2) ∧ (1 ≤ r.st ∧ r.st ≤ 5) ∧ (1 ≤ r.kd ∧ r.kd ≤ 4) ∧ r.nm ∈ [nmA, nmB, nmL] ∧ ((r.kd = 1 ∨ r.kd = 3) ∧ 1 ≤ r.le ∧ r.le ≤ 30 ∨ ¬ (r.kd = 1 ∨ r.kd = 3) ∧ r.le = 0)
def Rq.V (r : Rq) : List V := [.int .i64 r.cl, .int .i64 r.st, .int .i64 r.kd, .int .i64 r.le, .str r.nm]
theorem o14 (fr nn : Bool) (B : List Int) (hB : bytes B) (hL : B.length ≤ 1048577) (k sd : Int) (hk : 0 ≤ k ∧ k ≤ 900000) (hs : sdOK sd) {id : Nat} {h : Heap} {n : Nat} (hid : id < n) (hh : h id = some (srcB fr nn B k sd)) :
    ∃ r : Rq × Int × Int, r.1.good ∧ V.Open En 14 [.ptr id 0 0] h n (.agg r.1.V) [(id, some (srcB fr nn B r.2.1 r.2.2))] (n + 3) := by
  refine V.Open.of_wpX (v := fun r : Rq × Int × Int => .agg r.1.V) (wr := fun r : Rq × Int × Int => [(id, some (srcB fr nn B r.2.1 r.2.2))]) (m := fun _ => n + 3) Tryd.func14 rfl (Nat.le_of_ble_eq_true rfl) ?_
  refine wSeq ?_
  refine wRegion ?_
  refine ral rfl rfl rfl rfl rfl rfl ?_
  refine rNil ?_
  refine qSeq ?_
  refine wSeq ?_
  refine wRegion ?_
  refine rmP rfl rfl rfl rfl rfl ?_
  refine ropX (o29 fr nn B hB hL k sd 3 ?_ hs (by decide) ?_ ?_) rfl rfl rfl rfl rfl rfl ?_
  · (first | omega | (first | ((simp (disch := omega) only [↓app0, ↓appC, ↓updS, ↓updN, ↓hpS, ↓hpN]) <;> first | rfl | assumption) | assumption | rfl) | (first | omega | assumption | (focus (simp; omega))))
  · (first | omega | (first | ((simp (disch := omega) only [↓app0, ↓appC, ↓updS, ↓updN, ↓hpS, ↓hpN]) <;> first | rfl | assumption) | assumption | rfl) | (first | omega | assumption | (focus (simp; omega))))
  · (first | omega | (first | ((simp (disch := omega) only [↓app0, ↓appC, ↓updS, ↓updN, ↓hpS, ↓hpN]) <;> first | rfl | assumption) | assumption | rfl) | (first | omega | assumption | (focus (simp; omega))))
  rintro ⟨v1, s1⟩ h1_1
  try dsimp only at h1_1
  refine rmP rfl rfl rfl rfl rfl ?_
  refine ropX (o29 fr nn B hB hL (k + 1) s1 5 ?_ h1_1.2 (by decide) ?_ ?_) rfl rfl rfl rfl rfl rfl ?_
  · (first | omega | (first | ((simp (disch := omega) only [↓app0, ↓appC, ↓updS, ↓updN, ↓hpS, ↓hpN]) <;> first | rfl | assumption) | assumption | rfl) | (first | omega | assumption | (focus (simp; omega))))
  · (first | omega | (first | ((simp (disch := omega) only [↓app0, ↓appC, ↓updS, ↓updN, ↓hpS, ↓hpN]) <;> first | rfl | assumption) | assumption | rfl) | (first | omega | assumption | (focus (simp; omega))))
  · (first | omega | (first | ((simp (disch := omega) only [↓app0, ↓appC, ↓updS, ↓updN, ↓hpS, ↓hpN]) <;> first | rfl | assumption) | assumption | rfl) | (first | omega | assumption | (focus (simp; omega))))
  rintro ⟨v2, s2⟩ h1_3
  try dsimp only at h1_3
  refine raddF rfl rfl rfl ?_ ?_ rfl rfl rfl ?_
  · (first | omega | assumption | (focus (simp; omega)))
  · (first | omega | assumption | (focus (simp; omega)))
  refine rmP rfl rfl rfl rfl rfl ?_
  refine ropX (o29 fr nn B hB hL (k + 1 + 1) s2 4 ?_ h1_3.2 (by decide) ?_ ?_) rfl rfl rfl rfl rfl rfl ?_
  · (first | omega | (first | ((simp (disch := omega) only [↓app0, ↓appC, ↓updS, ↓updN, ↓hpS, ↓hpN]) <;> first | rfl | assumption) | assumption | rfl) | (first | omega | assumption | (focus (simp; omega))))
  · (first | omega | (first | ((simp (disch := omega) only [↓app0, ↓appC, ↓updS, ↓updN, ↓hpS, ↓hpN]) <;> first | rfl | assumption) | assumption | rfl) | (first | omega | assumption | (focus (simp; omega))))
  · (first | omega | (first | ((simp (disch := omega) only [↓app0, ↓appC, ↓updS, ↓updN, ↓hpS, ↓hpN]) <;> first | rfl | assumption) | assumption | rfl) | (first | omega | assumption | (focus (simp; omega))))
  rintro ⟨v3, s3⟩ h1_6
  try dsimp only at h1_6
  refine raddF rfl rfl rfl ?_ ?_ rfl rfl rfl ?_
  · (first | omega | assumption | (focus (simp; omega)))
  · (first | omega | assumption | (focus (simp; omega)))
  refine rmP rfl rfl rfl rfl rfl ?_
  refine rbs (es := [[.str _], [.str _], [.str _]]) rfl rfl rfl rfl (Nat.succ_ne_zero _) (Nat.le_of_ble_eq_true rfl) rfl rfl rfl rfl rfl ?_
  refine ropX (o30 fr nn B hB hL (k + 1 + 1 + 1) s3 nmA nmB nmL (id2 := n + 1) ?_ h1_6.2 ?_ ?_ ?_ ?_) rfl rfl rfl rfl rfl rfl ?_
  · (first | omega | (first | ((simp (disch := omega) only [↓app0, ↓appC, ↓updS, ↓updN, ↓hpS, ↓hpN]) <;> first | rfl | assumption) | assumption | rfl) | (first | omega | assumption | (focus (simp; omega))))
  · (first | omega | (first | ((simp (disch := omega) only [↓app0, ↓appC, ↓updS, ↓updN, ↓hpS, ↓hpN]) <;> first | rfl | assumption) | assumption | rfl) | (first | omega | assumption | (focus (simp; omega))))
  · (first | omega | (first | ((simp (disch := omega) only [↓app0, ↓appC, ↓updS, ↓updN, ↓hpS, ↓hpN]) <;> first | rfl | assumption) | assumption | rfl) | (first | omega | assumption | (focus (simp; omega))))
  · (first | omega | (first | ((simp (disch := omega) only [↓app0, ↓appC, ↓updS, ↓updN, ↓hpS, ↓hpN]) <;> first | rfl | assumption) | assumption | rfl) | (first | omega | assumption | (focus (simp; omega))))
  · (first | omega | (first | ((simp (disch := omega) only [↓app0, ↓appC, ↓updS, ↓updN, ↓hpS, ↓hpN]) <;> first | rfl | assumption) | assumption | rfl) | (first | omega | assumption | (focus (simp; omega))))
  rintro ⟨nm, s4⟩ h1_10
  try dsimp only at h1_10
  refine rbd (cs := [.int _ _, .int _ _, .int _ _, .int _ _, .str _]) rfl rfl rfl rfl rfl ?_
  refine ral rfl rfl rfl rfl rfl rfl ?_
  (apply rst (u := .agg [.int _ _, .int _ _, .int _ _, .int _ _, .str _]) rfl rfl rfl; (first | ((simp (disch := omega) only [↓app0, ↓appC, ↓updS, ↓updN, ↓hpS, ↓hpN]) <;> first | rfl | assumption) | assumption | rfl); rfl; rfl; rfl; rfl; rfl; (exact Nat.le_of_ble_eq_true rfl); rfl; rfl; rfl)
  refine rNil ?_
  refine qSeq ?_
  refine wSeq ?_
  refine wSeq ?_
  refine wRegion ?_
  refine rfa (off := 2) (s := 1) (r := false) rfl rfl rfl (Nat.succ_ne_zero _) rfl rfl rfl ?_
  (apply rlc (v := .int _ _) rfl rfl; (first | ((simp (disch := omega) only [↓app0, ↓appC, ↓updS, ↓updN, ↓hpS, ↓hpN]) <;> first | rfl | assumption) | assumption | rfl); rfl; rfl; rfl; rfl; rfl; rfl)
  refine req rfl rfl rfl rfl rfl rfl ?_ ?_ <;> intro h2_2
  · refine rmB rfl rfl rfl rfl rfl ?_
    refine rSkip rfl rfl rfl ?_
    refine rSkip rfl rfl rfl ?_
    refine rSkip rfl rfl rfl ?_
    refine rpk (e := true) rfl rfl rfl rfl rfl rfl ?_
    refine rNil ?_
    refine qSeq ?_
    refine wT rfl ?_
    refine wRegion ?_
    refine rmP rfl rfl rfl rfl rfl ?_
    refine ropX (o29 fr nn B hB hL (k + 1 + 1 + 1 + 1) s4 30 ?_ h1_10.2 (by decide) ?_ ?_) rfl rfl rfl rfl rfl rfl ?_
    · (first | omega | (first | ((simp (disch := omega) only [↓app0, ↓appC, ↓updS, ↓updN, ↓hpS, ↓hpN]) <;> first | rfl | assumption) | assumption | rfl) | (first | omega | assumption | (focus (simp; omega))))
    · (first | omega | (first | ((simp (disch := omega) only [↓app0, ↓appC, ↓updS, ↓updN, ↓hpS, ↓hpN]) <;> first | rfl | assumption) | assumption | rfl) | (first | omega | assumption | (focus (simp; omega))))
    · (first | omega | (first | ((simp (disch := omega) only [↓app0, ↓appC, ↓updS, ↓updN, ↓hpS, ↓hpN]) <;> first | rfl | assumption) | assumption | rfl) | (first | omega | assumption | (focus (simp; omega))))
    rintro ⟨v5, s5⟩ h3_1
    try dsimp only at h3_1
    refine raddF rfl rfl rfl ?_ ?_ rfl rfl rfl ?_
    · (first | omega | assumption | (focus (simp; omega)))
    · (first | omega | assumption | (focus (simp; omega)))
    refine rfa (off := 3) (s := 1) (r := false) rfl rfl rfl (Nat.succ_ne_zero _) rfl rfl rfl ?_
    (apply rst (u := .int _ _) rfl rfl rfl; (first | ((simp (disch := omega) only [↓app0, ↓appC, ↓updS, ↓updN, ↓hpS, ↓hpN]) <;> first | rfl | assumption) | assumption | rfl); rfl; rfl; rfl; rfl; rfl; (exact Nat.le_of_ble_eq_true rfl); rfl; rfl; rfl)
    refine rNil ?_
    refine qSeq ?_
    refine wSeq ?_
    refine wRegion ?_
    (apply rlr (vs := [.int _ _, .int _ _, .int _ _, .int _ _, .str _]) rfl rfl; (first | ((simp (disch := omega) only [↓app0, ↓appC, ↓updS, ↓updN, ↓hpS, ↓hpN]) <;> first | rfl | assumption) | assumption | rfl); rfl; rfl; (exact Nat.le_of_ble_eq_true rfl); rfl; rfl; rfl; rfl)
    (apply rst (u := .agg [.int _ _, .int _ _, .int _ _, .int _ _, .str _]) rfl rfl rfl; (first | ((simp (disch := omega) only [↓app0, ↓appC, ↓updS, ↓updN, ↓hpS, ↓hpN]) <;> first | rfl | assumption) | assumption | rfl); rfl; rfl; rfl; rfl; rfl; (exact Nat.le_of_ble_eq_true rfl); rfl; rfl; rfl)
    refine rNil ?_
    refine qSeq ?_
    refine wRet ?_
    first
      | exact ⟨(⟨v1, 1 + v2, 1 + v3, 1 + v5, nm⟩, k + 1 + 1 + 1 + 1 + 1, s5), ⟨by dsimp only; omega, by dsimp only; omega, by dsimp only; omega, h1_10.1, by dsimp only; omega⟩, finO (resL_cons (resV_row rfl (by simp (disch := omega) only [↓app0, ↓appC, ↓updS, ↓updN]; rfl) rfl rfl (Nat.le_of_ble_eq_true rfl) rfl) resL_nil) rfl (fun hz j b hj => by
      by_cases e : j = id
      · subst e; simp (disch := omega) only [↓app0, ↓appC, ↓updS, ↓updN] at hj ⊢; exact hj
      · have hj2 : h j = some b := (upd_ne h _ e).symm.trans hj
        have : j < n := by
          rcases Nat.lt_or_ge j n with h1 | h1
          · exact h1
          · rw [hz j h1] at hj2; cases hj2
        simp (disch := omega) only [↓app0, ↓appC, ↓updN]; exact hj2) (Nat.le_refl _)⟩
      | exact ⟨(⟨v1, 1 + v2, 1 + v3, 0, nm⟩, k + 1 + 1 + 1 + 1, s4), ⟨by dsimp only; omega, by dsimp only; omega, by dsimp only; omega, h1_10.1, by dsimp only; omega⟩, finO (resL_cons (resV_row rfl (by simp (disch := omega) only [↓app0, ↓appC, ↓updS, ↓updN]; rfl) rfl rfl (Nat.le_of_ble_eq_true rfl) rfl) resL_nil) rfl (fun hz j b hj => by
      by_cases e : j = id
      · subst e; simp (disch := omega) only [↓app0, ↓appC, ↓updS, ↓updN] at hj ⊢; exact hj
      · have hj2 : h j = some b := (upd_ne h _ e).symm.trans hj
        have : j < n := by
          rcases Nat.lt_or_ge j n with h1 | h1
          · exact h1
          · rw [hz j h1] at hj2; cases hj2
        simp (disch := omega) only [↓app0, ↓appC, ↓updN]; exact hj2) (Nat.le_refl _)⟩
  · refine rmB rfl rfl rfl rfl rfl ?_
    refine rfa (off := 2) (s := 1) (r := false) rfl rfl rfl (Nat.succ_ne_zero _) rfl rfl rfl ?_
    (apply rlc (v := .int _ _) rfl rfl; (first | ((simp (disch := omega) only [↓app0, ↓appC, ↓updS, ↓updN, ↓hpS, ↓hpN]) <;> first | rfl | assumption) | assumption | rfl); rfl; rfl; rfl; rfl; rfl; rfl)
    refine req rfl rfl rfl rfl rfl rfl ?_ ?_ <;> intro h2_6
    · refine rpk (e := true) rfl rfl rfl rfl rfl rfl ?_
      refine rNil ?_
      refine qSeq ?_
      refine wT rfl ?_
      refine wRegion ?_
      refine rmP rfl rfl rfl rfl rfl ?_
      refine ropX (o29 fr nn B hB hL (k + 1 + 1 + 1 + 1) s4 30 ?_ h1_10.2 (by decide) ?_ ?_) rfl rfl rfl rfl rfl rfl ?_
      · (first | omega | (first | ((simp (disch := omega) only [↓app0, ↓appC, ↓updS, ↓updN, ↓hpS, ↓hpN]) <;> first | rfl | assumption) | assumption | rfl) | (first | omega | assumption | (focus (simp; omega))))
      · (first | omega | (first | ((simp (disch := omega) only [↓app0, ↓appC, ↓updS, ↓updN, ↓hpS, ↓hpN]) <;> first | rfl | assumption) | assumption | rfl) | (first | omega | assumption | (focus (simp; omega))))
      · (first | omega | (first | ((simp (disch := omega) only [↓app0, ↓appC, ↓updS, ↓updN, ↓hpS, ↓hpN]) <;> first | rfl | assumption) | assumption | rfl) | (first | omega | assumption | (focus (simp; omega))))
      rintro ⟨v5, s5⟩ h3_1
      try dsimp only at h3_1
      refine raddF rfl rfl rfl ?_ ?_ rfl rfl rfl ?_
      · (first | omega | assumption | (focus (simp; omega)))
      · (first | omega | assumption | (focus (simp; omega)))
      refine rfa (off := 3) (s := 1) (r := false) rfl rfl rfl (Nat.succ_ne_zero _) rfl rfl rfl ?_
      (apply rst (u := .int _ _) rfl rfl rfl; (first | ((simp (disch := omega) only [↓app0, ↓appC, ↓updS, ↓updN, ↓hpS, ↓hpN]) <;> first | rfl | assumption) | assumption | rfl); rfl; rfl; rfl; rfl; rfl; (exact Nat.le_of_ble_eq_true rfl); rfl; rfl; rfl)
      refine rNil ?_
      refine qSeq ?_
      refine wSeq ?_
      refine wRegion ?_
      (apply rlr (vs := [.int _ _, .int _ _, .int _ _, .int _ _, .str _]) rfl rfl; (first | ((simp (disch := omega) only [↓app0, ↓appC, ↓updS, ↓updN, ↓hpS, ↓hpN]) <;> first | rfl | assumption) | assumption | rfl); rfl; rfl; (exact Nat.le_of_ble_eq_true rfl); rfl; rfl; rfl; rfl)
      (apply rst (u := .agg [.int _ _, .int _ _, .int _ _, .int _ _, .str _]) rfl rfl rfl; (first | ((simp (disch := omega) only [↓app0, ↓appC, ↓updS, ↓updN, ↓hpS, ↓hpN]) <;> first | rfl | assumption) | assumption | rfl); rfl; rfl; rfl; rfl; rfl; (exact Nat.le_of_ble_eq_true rfl); rfl; rfl; rfl)
      refine rNil ?_
      refine qSeq ?_
      refine wRet ?_
      first
        | exact ⟨(⟨v1, 1 + v2, 1 + v3, 1 + v5, nm⟩, k + 1 + 1 + 1 + 1 + 1, s5), ⟨by dsimp only; omega, by dsimp only; omega, by dsimp only; omega, h1_10.1, by dsimp only; omega⟩, finO (resL_cons (resV_row rfl (by simp (disch := omega) only [↓app0, ↓appC, ↓updS, ↓updN]; rfl) rfl rfl (Nat.le_of_ble_eq_true rfl) rfl) resL_nil) rfl (fun hz j b hj => by
        by_cases e : j = id
        · subst e; simp (disch := omega) only [↓app0, ↓appC, ↓updS, ↓updN] at hj ⊢; exact hj
        · have hj2 : h j = some b := (upd_ne h _ e).symm.trans hj
          have : j < n := by
            rcases Nat.lt_or_ge j n with h1 | h1
            · exact h1
            · rw [hz j h1] at hj2; cases hj2
          simp (disch := omega) only [↓app0, ↓appC, ↓updN]; exact hj2) (Nat.le_refl _)⟩
        | exact ⟨(⟨v1, 1 + v2, 1 + v3, 0, nm⟩, k + 1 + 1 + 1 + 1, s4), ⟨by dsimp only; omega, by dsimp only; omega, by dsimp only; omega, h1_10.1, by dsimp only; omega⟩, finO (resL_cons (resV_row rfl (by simp (disch := omega) only [↓app0, ↓appC, ↓updS, ↓updN]; rfl) rfl rfl (Nat.le_of_ble_eq_true rfl) rfl) resL_nil) rfl (fun hz j b hj => by
        by_cases e : j = id
        · subst e; simp (disch := omega) only [↓app0, ↓appC, ↓updS, ↓updN] at hj ⊢; exact hj
        · have hj2 : h j = some b := (upd_ne h _ e).symm.trans hj
          have : j < n := by
            rcases Nat.lt_or_ge j n with h1 | h1
            · exact h1
            · rw [hz j h1] at hj2; cases hj2
          simp (disch := omega) only [↓app0, ↓appC, ↓updN]; exact hj2) (Nat.le_refl _)⟩
    · refine rpk (e := false) rfl rfl rfl rfl rfl rfl ?_
      refine rNil ?_
      refine qSeq ?_
      refine wF rfl ?_
      refine wSkip ?_
      refine qSeq ?_
      refine wSeq ?_
      refine wRegion ?_
      (apply rlr (vs := [.int _ _, .int _ _, .int _ _, .int _ _, .str _]) rfl rfl; (first | ((simp (disch := omega) only [↓app0, ↓appC, ↓updS, ↓updN, ↓hpS, ↓hpN]) <;> first | rfl | assumption) | assumption | rfl); rfl; rfl; (exact Nat.le_of_ble_eq_true rfl); rfl; rfl; rfl; rfl)
      (apply rst (u := .agg [.int _ _, .int _ _, .int _ _, .int _ _, .str _]) rfl rfl rfl; (first | ((simp (disch := omega) only [↓app0, ↓appC, ↓updS, ↓updN, ↓hpS, ↓hpN]) <;> first | rfl | assumption) | assumption | rfl); rfl; rfl; rfl; rfl; rfl; (exact Nat.le_of_ble_eq_true rfl); rfl; rfl; rfl)
      refine rNil ?_
      refine qSeq ?_
      refine wRet ?_
      first
        | exact ⟨(⟨v1, 1 + v2, 1 + v3, 1 + v5, nm⟩, k + 1 + 1 + 1 + 1 + 1, s5), ⟨by dsimp only; omega, by dsimp only; omega, by dsimp only; omega, h1_10.1, by dsimp only; omega⟩, finO (resL_cons (resV_row rfl (by simp (disch := omega) only [↓app0, ↓appC, ↓updS, ↓updN]; rfl) rfl rfl (Nat.le_of_ble_eq_true rfl) rfl) resL_nil) rfl (fun hz j b hj => by
        by_cases e : j = id
        · subst e; simp (disch := omega) only [↓app0, ↓appC, ↓updS, ↓updN] at hj ⊢; exact hj
        · have hj2 : h j = some b := (upd_ne h _ e).symm.trans hj
          have : j < n := by
            rcases Nat.lt_or_ge j n with h1 | h1
            · exact h1
            · rw [hz j h1] at hj2; cases hj2
          simp (disch := omega) only [↓app0, ↓appC, ↓updN]; exact hj2) (Nat.le_refl _)⟩
        | exact ⟨(⟨v1, 1 + v2, 1 + v3, 0, nm⟩, k + 1 + 1 + 1 + 1, s4), ⟨by dsimp only; omega, by dsimp only; omega, by dsimp only; omega, h1_10.1, by dsimp only; omega⟩, finO (resL_cons (resV_row rfl (by simp (disch := omega) only [↓app0, ↓appC, ↓updS, ↓updN]; rfl) rfl rfl (Nat.le_of_ble_eq_true rfl) rfl) resL_nil) rfl (fun hz j b hj => by
        by_cases e : j = id
        · subst e; simp (disch := omega) only [↓app0, ↓appC, ↓updS, ↓updN] at hj ⊢; exact hj
        · have hj2 : h j = some b := (upd_ne h _ e).symm.trans hj
          have : j < n := by
            rcases Nat.lt_or_ge j n with h1 | h1
            · exact h1
            · rw [hz j h1] at hj2; cases hj2
          simp (disch := omega) only [↓app0, ↓appC, ↓updN]; exact hj2) (Nat.le_refl _)⟩
theorem p6 (nn : Bool) (B : List Int) (hB : bytes B) (hL : B.length ≤ 1048577) : ∃ r : Rq, r.good ∧ Pure En 6 [.one (.sl nn (B.map bT))] [.agg r.T] := by
  refine Pure.of_wpX Tryd.func6 rfl (Nat.le_of_ble_eq_true rfl) ?_
  refine wSeq ?_
  refine wRegion ?_
  refine ral rfl rfl rfl rfl rfl rfl ?_
  refine rNil ?_
  refine qSeq ?_
  refine wSeq ?_
  refine wRegion ?_
  refine rmL rfl rfl rfl rfl rfl ?_
  refine ropX (o13 false nn B) rfl rfl rfl rfl rfl rfl ?_
  rintro sd h1_1
  try dsimp only at h1_1
  refine ropX (o14 false nn B hB hL 0 sd (by decide) h1_1 ?_ ?_) rfl rfl rfl rfl rfl rfl ?_
  · (first | omega | (first | ((simp (disch := omega) only [↓app0, ↓appC, ↓updS, ↓updN, ↓hpS, ↓hpN]) <;> first | rfl | assumption) | assumption | rfl) | (first | omega | assumption | (focus (simp; omega))))
  · (first | omega | (first | ((simp (disch := omega) only [↓app0, ↓appC, ↓updS, ↓updN, ↓hpS, ↓hpN]) <;> first | rfl | assumption) | assumption | rfl) | (first | omega | assumption | (focus (simp; omega))))
  rintro ⟨rq, k2, s2⟩ h1_2
  try dsimp only at h1_2
  (apply rst (u := .agg [.int _ _, .int _ _, .int _ _, .int _ _, .str _]) rfl rfl rfl; (first | ((simp (disch := omega) only [↓app0, ↓appC, ↓updS, ↓updN, ↓hpS, ↓hpN]) <;> first | rfl | assumption) | assumption | rfl); rfl; rfl; rfl; rfl; rfl; (exact Nat.le_of_ble_eq_true rfl); rfl; rfl; rfl)
  refine rNil ?_
  refine qSeq ?_
  refine wRet ?_
  exact ⟨rq, h1_2, fin rfl rfl⟩

def An.good (a : An) : Prop := (1 ≤ a.kd ∧ a.kd ≤ 8) ∧ (0 ≤ a.tk ∧ a.tk ≤ 2) ∧ (-1 ≤ a.hd ∧ a.hd ≤ 1) ∧ (0 ≤ a.ex ∧ a.ex ≤ 20)
def An.V (a : An) : List V := [.int .i64 a.kd, .int .i64 a.tk, .int .i64 a.hd, .int .i64 a.ex]
theorem o18 (fr nn : Bool) (B : List Int) (hB : bytes B) (hL : B.length ≤ 1048577) (k sd : Int) (hk : 0 ≤ k ∧ k ≤ 900000) (hs : sdOK sd) {id : Nat} {h : Heap} {n : Nat} (hid : id < n) (hh : h id = some (srcB fr nn B k sd)) :
    ∃ r : An × Int × Int, r.1.good ∧ V.Open En 18 [.ptr id 0 0] h n (.agg r.1.V) [(id, some (srcB fr nn B r.2.1 r.2.2))] (n + 1) := by
  refine V.Open.of_wpX (v := fun r : An × Int × Int => .agg r.1.V) (wr := fun r : An × Int × Int => [(id, some (srcB fr nn B r.2.1 r.2.2))]) (m := fun _ => n + 1) Tryd.func18 rfl (Nat.le_of_ble_eq_true rfl) ?_
  refine wSeq ?_
  refine wRegion ?_
  refine ral rfl rfl rfl rfl rfl rfl ?_
  refine rNil ?_
  refine qSeq ?_
  refine wSeq ?_
  refine wRegion ?_
  refine rmP rfl rfl rfl rfl rfl ?_
  refine ropX (o29 fr nn B hB hL k sd 8 ?_ hs (by decide) ?_ ?_) rfl rfl rfl rfl rfl rfl ?_
  · (first | omega | (first | ((simp (disch := omega) only [↓app0, ↓appC, ↓updS, ↓updN, ↓hpS, ↓hpN]) <;> first | rfl | assumption) | assumption | rfl) | (first | omega | assumption | (focus (simp; omega))))
  · (first | omega | (first | ((simp (disch := omega) only [↓app0, ↓appC, ↓updS, ↓updN, ↓hpS, ↓hpN]) <;> first | rfl | assumption) | assumption | rfl) | (first | omega | assumption | (focus (simp; omega))))
  · (first | omega | (first | ((simp (disch := omega) only [↓app0, ↓appC, ↓updS, ↓updN, ↓hpS, ↓hpN]) <;> first | rfl | assumption) | assumption | rfl) | (first | omega | assumption | (focus (simp; omega))))
  rintro ⟨v1, s1⟩ h1_1
  try dsimp only at h1_1
  refine raddF rfl rfl rfl ?_ ?_ rfl rfl rfl ?_
  · (first | omega | assumption | (focus (simp; omega)))
  · (first | omega | assumption | (focus (simp; omega)))
  refine rmP rfl rfl rfl rfl rfl ?_
  refine ropX (o29 fr nn B hB hL (k + 1) s1 3 ?_ h1_1.2 (by decide) ?_ ?_) rfl rfl rfl rfl rfl rfl ?_
  · (first | omega | (first | ((simp (disch := omega) only [↓app0, ↓appC, ↓updS, ↓updN, ↓hpS, ↓hpN]) <;> first | rfl | assumption) | assumption | rfl) | (first | omega | assumption | (focus (simp; omega))))
  · (first | omega | (first | ((simp (disch := omega) only [↓app0, ↓appC, ↓updS, ↓updN, ↓hpS, ↓hpN]) <;> first | rfl | assumption) | assumption | rfl) | (first | omega | assumption | (focus (simp; omega))))
  · (first | omega | (first | ((simp (disch := omega) only [↓app0, ↓appC, ↓updS, ↓updN, ↓hpS, ↓hpN]) <;> first | rfl | assumption) | assumption | rfl) | (first | omega | assumption | (focus (simp; omega))))
  rintro ⟨v2, s2⟩ h1_4
  try dsimp only at h1_4
  refine rmP rfl rfl rfl rfl rfl ?_
  refine ropX (o29 fr nn B hB hL (k + 1 + 1) s2 3 ?_ h1_4.2 (by decide) ?_ ?_) rfl rfl rfl rfl rfl rfl ?_
  · (first | omega | (first | ((simp (disch := omega) only [↓app0, ↓appC, ↓updS, ↓updN, ↓hpS, ↓hpN]) <;> first | rfl | assumption) | assumption | rfl) | (first | omega | assumption | (focus (simp; omega))))
  · (first | omega | (first | ((simp (disch := omega) only [↓app0, ↓appC, ↓updS, ↓updN, ↓hpS, ↓hpN]) <;> first | rfl | assumption) | assumption | rfl) | (first | omega | assumption | (focus (simp; omega))))
  · (first | omega | (first | ((simp (disch := omega) only [↓app0, ↓appC, ↓updS, ↓updN, ↓hpS, ↓hpN]) <;> first | rfl | assumption) | assumption | rfl) | (first | omega | assumption | (focus (simp; omega))))
  rintro ⟨v3, s3⟩ h1_6
  try dsimp only at h1_6
  refine rsubF rfl rfl rfl ?_ ?_ rfl rfl rfl ?_
  · (first | omega | assumption | (focus (simp; omega)))
  · (first | omega | assumption | (focus (simp; omega)))
  refine rmP rfl rfl rfl rfl rfl ?_
  refine ropX (o29 fr nn B hB hL (k + 1 + 1 + 1) s3 3 ?_ h1_6.2 (by decide) ?_ ?_) rfl rfl rfl rfl rfl rfl ?_
  · (first | omega | (first | ((simp (disch := omega) only [↓app0, ↓appC, ↓updS, ↓updN, ↓hpS, ↓hpN]) <;> first | rfl | assumption) | assumption | rfl) | (first | omega | assumption | (focus (simp; omega))))
  · (first | omega | (first | ((simp (disch := omega) only [↓app0, ↓appC, ↓updS, ↓updN, ↓hpS, ↓hpN]) <;> first | rfl | assumption) | assumption | rfl) | (first | omega | assumption | (focus (simp; omega))))
  · (first | omega | (first | ((simp (disch := omega) only [↓app0, ↓appC, ↓updS, ↓updN, ↓hpS, ↓hpN]) <;> first | rfl | assumption) | assumption | rfl) | (first | omega | assumption | (focus (simp; omega))))
  rintro ⟨v4, s4⟩ h1_9
  try dsimp only at h1_9
  refine rmulF rfl rfl rfl ?_ ?_ rfl rfl rfl ?_
  · (first | omega | assumption | (focus (simp; omega)))
  · (first | omega | assumption | (focus (simp; omega)))
  refine rbd (cs := [.int _ _, .int _ _, .int _ _, .int _ _]) rfl rfl rfl rfl rfl ?_
  (apply rst (u := .agg [.int _ _, .int _ _, .int _ _, .int _ _]) rfl rfl rfl; (first | ((simp (disch := omega) only [↓app0, ↓appC, ↓updS, ↓updN, ↓hpS, ↓hpN]) <;> first | rfl | assumption) | assumption | rfl); rfl; rfl; rfl; rfl; rfl; (exact Nat.le_of_ble_eq_true rfl); rfl; rfl; rfl)
  refine rNil ?_
  refine qSeq ?_
  refine wRet ?_
  exact ⟨(⟨1 + v1, v2, v3 - 1, v4 * 10⟩, k + 1 + 1 + 1 + 1, s4), ⟨by dsimp only; omega, by dsimp only; omega, by dsimp only; omega, by dsimp only; omega⟩, finO (resL_cons (resV_row rfl (by simp (disch := omega) only [↓app0, ↓appC, ↓updS, ↓updN]; rfl) rfl rfl (Nat.le_of_ble_eq_true rfl) rfl) resL_nil) rfl (fun hz j b hj => by
    by_cases e : j = id
    · subst e; simp (disch := omega) only [↓app0, ↓appC, ↓updS, ↓updN] at hj ⊢; exact hj
    · have hj2 : h j = some b := (upd_ne h _ e).symm.trans hj
      have : j < n := by
        rcases Nat.lt_or_ge j n with h1 | h1
        · exact h1
        · rw [hz j h1] at hj2; cases hj2
      simp (disch := omega) only [↓app0, ↓appC, ↓updN]; exact hj2) (Nat.le_refl _)⟩
theorem p8 (nn : Bool) (B : List Int) (hB : bytes B) (hL : B.length ≤ 1048577) : ∃ r : An, r.good ∧ Pure En 8 [.one (.sl nn (B.map bT))] [.agg r.T] := by
  refine Pure.of_wpX Tryd.func8 rfl (Nat.le_of_ble_eq_true rfl) ?_
  refine wSeq ?_
  refine wRegion ?_
  refine ral rfl rfl rfl rfl rfl rfl ?_
  refine rNil ?_
  refine qSeq ?_
  refine wSeq ?_
  refine wRegion ?_
  refine rmL rfl rfl rfl rfl rfl ?_
  refine ropX (o13 false nn B) rfl rfl rfl rfl rfl rfl ?_
  rintro sd h1_1
  try dsimp only at h1_1
  refine ropX (o18 false nn B hB hL 0 sd (by decide) h1_1 ?_ ?_) rfl rfl rfl rfl rfl rfl ?_
  · (first | omega | (first | ((simp (disch := omega) only [↓app0, ↓appC, ↓updS, ↓updN, ↓hpS, ↓hpN]) <;> first | rfl | assumption) | assumption | rfl) | (first | omega | assumption | (focus (simp; omega))))
  · (first | omega | (first | ((simp (disch := omega) only [↓app0, ↓appC, ↓updS, ↓updN, ↓hpS, ↓hpN]) <;> first | rfl | assumption) | assumption | rfl) | (first | omega | assumption | (focus (simp; omega))))
  rintro ⟨an, k2, s2⟩ h1_2
  try dsimp only at h1_2
  (apply rst (u := .agg [.int _ _, .int _ _, .int _ _, .int _ _]) rfl rfl rfl; (first | ((simp (disch := omega) only [↓app0, ↓appC, ↓updS, ↓updN, ↓hpS, ↓hpN]) <;> first | rfl | assumption) | assumption | rfl); rfl; rfl; rfl; rfl; rfl; (exact Nat.le_of_ble_eq_true rfl); rfl; rfl; rfl)
  refine rNil ?_
  refine qSeq ?_
  refine wRet ?_
  exact ⟨an, h1_2, fin rfl rfl⟩
end Go.Proofs.YtnkpjlpappmccaaDoor
