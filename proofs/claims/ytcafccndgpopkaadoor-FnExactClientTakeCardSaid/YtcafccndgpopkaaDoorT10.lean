import Derived.Test.YtcafccndgpopkaaDoorU13
namespace Go.Proofs.YtcafccndgpopkaaDoor
open Go.V
set_option linter.unusedVariables false
set_option linter.unusedSimpArgs false
set_option maxRecDepth 20000
set_option maxHeartbeats 4000000

/-! impl.ClientTake, in so many words. -/
def tkErr (n0 : Int) (c : Cl) (r : Rp) (code : Int) : Prop := (¬ r.OK n0 ∧ code = 12) ∨ (r.OK n0 ∧ (c.bz = false ∨ r.cl ≠ c.id ∨ r.st ≠ c.st) ∧ code = 16) ∨ (r.OK n0 ∧ c.bz = true ∧ r.cl = c.id ∧ r.st = c.st ∧ c.rps.length = 40 ∧ code = 7)
theorem o32e (n0 : Int) (c : Cl) (r : Rp) (code : Int) (hc : tkErr n0 c r code) {id id1 id2 : Nat} {h : Heap} {n : Nat} (hid : id < n) (hh : h id = some ⟨[c.V (.view id1 0 c.rps.length) (.view id2 0 c.acc.length)], 10, 38⟩) (hi1 : id1 < n) (hi2 : id2 < n) :
    V.Open En 32 [.ptr id 0 0, .int .i64 n0, .agg r.V] h n (.int .i64 code) [] (n + 1) := by
  unfold tkErr at hc
  obtain ⟨ci, cs, cb, cr, rps, acc⟩ := c
  unfold Cl.V at hh
  dsimp only at hh hc
  refine V.Open.of_wp Tryd.func32 rfl (Nat.le_of_ble_eq_true rfl) ?_
  refine wSeq ?_
  refine wRegion ?_
  refine rbx (u := .agg [.int _ _, .int _ _, .int _ _, .int _ _, .int _ _, .int _ _, .int _ _, .str _]) rfl rfl rfl rfl rfl rfl rfl ?_
  refine raI rfl rfl rfl rfl rfl ?_
  refine rNil ?_
  refine qSeq ?_
  refine wSeq ?_
  refine wBlock ?_
  refine wSeq ?_
  refine wRegion ?_
  refine rmI rfl rfl rfl rfl rfl ?_
  (apply rlr (vs := [.int _ _, .int _ _, .int _ _, .int _ _, .int _ _, .int _ _, .int _ _, .str _]) rfl rfl; (first | ((simp (disch := omega) only [↓app0, ↓appC, ↓updS, ↓updN, ↓hpS, ↓hpN]) <;> first | rfl | assumption) | assumption | rfl); rfl; rfl; (exact Nat.le_of_ble_eq_true rfl); rfl; rfl; rfl; rfl)
  refine rclP (p27 n0 r) rfl rfl rfl rfl rfl rfl ?_ ?_ <;> intro h1_2
  · refine rnot (c := true) rfl rfl rfl rfl rfl ?_
    refine raB rfl rfl rfl rfl rfl ?_
    refine rNil ?_
    refine qSeq ?_
    refine wF rfl ?_
    refine wSeq ?_
    refine wDraw [0, 1, 3, 7, 15, 31, 63, 127, 63, 319, 831, 1855, 4095, 8191, 16383, 32767, 65535, 32767, 163839, 425983, 950271, 2097151, 4194303, 8388607] rfl (by decide +kernel) ?_
    refine dmP rfl rfl rfl rfl rfl ?_
    refine dnc (v := .ptr _ _ _) rfl rfl rfl rfl rfl rfl ?_
    refine dfa (off := 2) (s := 1) (r := false) rfl rfl rfl (Nat.succ_ne_zero _) rfl rfl rfl ?_
    ((apply dlcB rfl rfl; (first | ((simp (disch := omega) only [↓app0, ↓appC, ↓updS, ↓updN, ↓hpS, ↓hpN]) <;> first | rfl | assumption) | assumption | rfl); rfl; rfl; rfl; rfl; rfl; rfl)) <;> intro h3_3
    · refine dnot (c := true) rfl rfl rfl rfl rfl ?_
      refine dmB rfl rfl rfl rfl rfl ?_
      refine dfa (off := 1) (s := 1) (r := false) rfl rfl rfl (Nat.succ_ne_zero _) rfl rfl rfl ?_
      (apply dlc (v := .int _ _) rfl rfl; (first | ((simp (disch := omega) only [↓app0, ↓appC, ↓updS, ↓updN, ↓hpS, ↓hpN]) <;> first | rfl | assumption) | assumption | rfl); rfl; rfl; rfl; rfl; rfl; rfl)
      refine dmP rfl rfl rfl rfl rfl ?_
      refine dnc (v := .ptr _ _ _) rfl rfl rfl rfl rfl rfl ?_
      refine dfa (off := 0) (s := 1) (r := false) rfl rfl rfl (Nat.succ_ne_zero _) rfl rfl rfl ?_
      (apply dlc (v := .int _ _) rfl rfl; (first | ((simp (disch := omega) only [↓app0, ↓appC, ↓updS, ↓updN, ↓hpS, ↓hpN]) <;> first | rfl | assumption) | assumption | rfl); rfl; rfl; rfl; rfl; rfl; rfl)
      refine dne rfl rfl rfl rfl rfl rfl ?_ ?_ <;> intro h3_12
      · refine dpk (e := true) rfl rfl rfl rfl rfl rfl ?_
        refine dmB rfl rfl rfl rfl rfl ?_
        refine dSkip rfl rfl rfl ?_
        refine dSkip rfl rfl rfl ?_
        refine dSkip rfl rfl rfl ?_
        refine dSkip rfl rfl rfl ?_
        refine dSkip rfl rfl rfl ?_
        refine dSkip rfl rfl rfl ?_
        refine dSkip rfl rfl rfl ?_
        refine dpk (e := true) rfl rfl rfl rfl rfl rfl ?_
        refine daB rfl rfl rfl rfl rfl ?_
        refine dNilR 24 [0, 0, 0, 0, 0, 0, 0, 0, 0, 0, 0, 0, 1, 0, 0, 0, 1, 0, 0, 0, 1, 0, 0, 0] [] rfl rfl (by decide +kernel) trivial ?_
        refine qSeq ?_
        refine wT rfl ?_
        refine wSeq ?_
        refine wRegion ?_
        refine raI rfl rfl rfl rfl rfl ?_
        refine rNil ?_
        refine qSeq ?_
        refine wRet ?_
        refine qBlockR ?_
        refine qSeqR ?_
        rcases hc with ⟨g1, g2⟩ | ⟨g1, g2, g3⟩ | ⟨g1, g2, g3, g4, g5, g6⟩
        · exact absurd h1_2 g1
        · subst g3; exact finO (congrArg (fun x => some [V.int .i64 x]) rfl) rfl (fun hz j b hj => by
            have : j < n := by
              rcases Nat.lt_or_ge j n with h1 | h1
              · exact h1
              · rw [show app [] h j = h j from rfl, hz j h1] at hj; cases hj
            simp (disch := omega) only [↓app0, ↓appC, ↓updS, ↓updN]; exact hj) (Nat.le_refl _)
        · first | exact absurd g3 h3_12 | exact absurd g4 h3_21 | (rw [g2] at h3_3; cases h3_3; done)
      · refine dpk (e := false) rfl rfl rfl rfl rfl rfl ?_
        refine dmB rfl rfl rfl rfl rfl ?_
        refine dfa (off := 2) (s := 1) (r := false) rfl rfl rfl (Nat.succ_ne_zero _) rfl rfl rfl ?_
        (apply dlc (v := .int _ _) rfl rfl; (first | ((simp (disch := omega) only [↓app0, ↓appC, ↓updS, ↓updN, ↓hpS, ↓hpN]) <;> first | rfl | assumption) | assumption | rfl); rfl; rfl; rfl; rfl; rfl; rfl)
        refine dmP rfl rfl rfl rfl rfl ?_
        refine dnc (v := .ptr _ _ _) rfl rfl rfl rfl rfl rfl ?_
        refine dfa (off := 1) (s := 1) (r := false) rfl rfl rfl (Nat.succ_ne_zero _) rfl rfl rfl ?_
        (apply dlc (v := .int _ _) rfl rfl; (first | ((simp (disch := omega) only [↓app0, ↓appC, ↓updS, ↓updN, ↓hpS, ↓hpN]) <;> first | rfl | assumption) | assumption | rfl); rfl; rfl; rfl; rfl; rfl; rfl)
        refine dne rfl rfl rfl rfl rfl rfl ?_ ?_ <;> intro h3_21
        · refine dpk (e := true) rfl rfl rfl rfl rfl rfl ?_
          refine daB rfl rfl rfl rfl rfl ?_
          refine dNilR 24 [0, 0, 0, 1, 0, 0, 0, 1, 0, 0, 0, 0, 1, 0, 0, 0, 1, 0, 0, 0, 1, 0, 0, 0] [] rfl rfl (by decide +kernel) trivial ?_
          refine qSeq ?_
          refine wT rfl ?_
          refine wSeq ?_
          refine wRegion ?_
          refine raI rfl rfl rfl rfl rfl ?_
          refine rNil ?_
          refine qSeq ?_
          refine wRet ?_
          refine qBlockR ?_
          refine qSeqR ?_
          rcases hc with ⟨g1, g2⟩ | ⟨g1, g2, g3⟩ | ⟨g1, g2, g3, g4, g5, g6⟩
          · exact absurd h1_2 g1
          · subst g3; exact finO (congrArg (fun x => some [V.int .i64 x]) rfl) rfl (fun hz j b hj => by
              have : j < n := by
                rcases Nat.lt_or_ge j n with h1 | h1
                · exact h1
                · rw [show app [] h j = h j from rfl, hz j h1] at hj; cases hj
              simp (disch := omega) only [↓app0, ↓appC, ↓updS, ↓updN]; exact hj) (Nat.le_refl _)
          · first | exact absurd g3 h3_12 | exact absurd g4 h3_21 | (rw [g2] at h3_3; cases h3_3; done)
        · refine dpk (e := false) rfl rfl rfl rfl rfl rfl ?_
          refine daB rfl rfl rfl rfl rfl ?_
          refine dNilR 24 [0, 0, 0, 1, 0, 0, 0, 1, 0, 0, 0, 0, 1, 0, 0, 0, 1, 0, 0, 0, 1, 0, 0, 0] [] rfl rfl (by decide +kernel) trivial ?_
          refine qSeq ?_
          refine wF rfl ?_
          refine wSeq ?_
          refine wRegion ?_
          refine rmP rfl rfl rfl rfl rfl ?_
          refine rnc (v := .ptr _ _ _) rfl rfl rfl rfl rfl rfl ?_
          refine rfa (off := 8) (s := 1) (r := false) rfl rfl rfl (Nat.succ_ne_zero _) rfl rfl rfl ?_
          (apply rlc  rfl rfl; (first | ((simp (disch := omega) only [↓app0, ↓appC, ↓updS, ↓updN, ↓hpS, ↓hpN]) <;> first | rfl | assumption) | assumption | rfl); rfl; rfl; rfl; rfl; rfl; rfl)
          refine rll rfl rfl rfl rfl rfl rfl ?_
          refine req rfl rfl rfl rfl rfl rfl ?_ ?_ <;> intro h5_5
          · refine raB rfl rfl rfl rfl rfl ?_
            refine rNil ?_
            refine qSeq ?_
            refine wT rfl ?_
            refine wSeq ?_
            refine wRegion ?_
            refine raI rfl rfl rfl rfl rfl ?_
            refine rNil ?_
            refine qSeq ?_
            refine wRet ?_
            refine qBlockR ?_
            refine qSeqR ?_
            rcases hc with ⟨g1, g2⟩ | ⟨g1, g2, g3⟩ | ⟨g1, g2, g3, g4, g5, g6⟩
            · exact absurd h1_2 g1
            · rcases g2 with g2 | g2 | g2
              · first | (rw [g2] at h3_3; cases h3_3) | contradiction
              · exact absurd g2 h3_12
              · exact absurd g2 h3_21
            · subst g6; exact finO (congrArg (fun x => some [V.int .i64 x]) rfl) rfl (fun hz j b hj => by
                have : j < n := by
                  rcases Nat.lt_or_ge j n with h1 | h1
                  · exact h1
                  · rw [show app [] h j = h j from rfl, hz j h1] at hj; cases hj
                simp (disch := omega) only [↓app0, ↓appC, ↓updS, ↓updN]; exact hj) (Nat.le_refl _)
          · refine raB rfl rfl rfl rfl rfl ?_
            refine rNil ?_
            refine qSeq ?_
            refine wF rfl ?_
            refine wSkip ?_
            refine qBlock ?_
            refine qSeq ?_
            refine wSeq ?_
            rcases hc with ⟨g1, g2⟩ | ⟨g1, g2, g3⟩ | ⟨g1, g2, g3, g4, g5, g6⟩
            · exact absurd h1_2 g1
            · rcases g2 with g2 | g2 | g2
              · first | (rw [g2] at h3_3; cases h3_3) | contradiction
              · exact absurd g2 h3_12
              · exact absurd g2 h3_21
            · exact (h5_5 (by omega)).elim
    · refine dnot (c := false) rfl rfl rfl rfl rfl ?_
      refine dmB rfl rfl rfl rfl rfl ?_
      refine dSkip rfl rfl rfl ?_
      refine dSkip rfl rfl rfl ?_
      refine dSkip rfl rfl rfl ?_
      refine dSkip rfl rfl rfl ?_
      refine dSkip rfl rfl rfl ?_
      refine dSkip rfl rfl rfl ?_
      refine dSkip rfl rfl rfl ?_
      refine dpk (e := true) rfl rfl rfl rfl rfl rfl ?_
      refine dmB rfl rfl rfl rfl rfl ?_
      refine dSkip rfl rfl rfl ?_
      refine dSkip rfl rfl rfl ?_
      refine dSkip rfl rfl rfl ?_
      refine dSkip rfl rfl rfl ?_
      refine dSkip rfl rfl rfl ?_
      refine dSkip rfl rfl rfl ?_
      refine dSkip rfl rfl rfl ?_
      refine dpk (e := true) rfl rfl rfl rfl rfl rfl ?_
      refine daB rfl rfl rfl rfl rfl ?_
      refine dNilR 24 [0, 0, 0, 0, 0, 0, 0, 0, 0, 0, 0, 0, 0, 0, 0, 0, 0, 0, 0, 0, 1, 0, 0, 0] [] rfl rfl (by decide +kernel) trivial ?_
      refine qSeq ?_
      refine wT rfl ?_
      refine wSeq ?_
      refine wRegion ?_
      refine raI rfl rfl rfl rfl rfl ?_
      refine rNil ?_
      refine qSeq ?_
      refine wRet ?_
      refine qBlockR ?_
      refine qSeqR ?_
      rcases hc with ⟨g1, g2⟩ | ⟨g1, g2, g3⟩ | ⟨g1, g2, g3, g4, g5, g6⟩
      · exact absurd h1_2 g1
      · subst g3; exact finO (congrArg (fun x => some [V.int .i64 x]) rfl) rfl (fun hz j b hj => by
          have : j < n := by
            rcases Nat.lt_or_ge j n with h1 | h1
            · exact h1
            · rw [show app [] h j = h j from rfl, hz j h1] at hj; cases hj
          simp (disch := omega) only [↓app0, ↓appC, ↓updS, ↓updN]; exact hj) (Nat.le_refl _)
      · first | exact absurd g3 h3_12 | exact absurd g4 h3_21 | (rw [g2] at h3_3; cases h3_3; done)
  · refine rnot (c := false) rfl rfl rfl rfl rfl ?_
    refine raB rfl rfl rfl rfl rfl ?_
    refine rNil ?_
    refine qSeq ?_
    refine wT rfl ?_
    refine wSeq ?_
    refine wRegion ?_
    refine raI rfl rfl rfl rfl rfl ?_
    refine rNil ?_
    refine qSeq ?_
    refine wRet ?_
    refine qBlockR ?_
    refine qSeqR ?_
    rcases hc with ⟨g1, g2⟩ | ⟨g1, _⟩ | ⟨g1, _⟩
    · subst g2; exact finO (congrArg (fun x => some [V.int .i64 x]) rfl) rfl (fun hz j b hj => by
        have : j < n := by
          rcases Nat.lt_or_ge j n with h1 | h1
          · exact h1
          · rw [show app [] h j = h j from rfl, hz j h1] at hj; cases hj
        simp (disch := omega) only [↓app0, ↓appC, ↓updS, ↓updN]; exact hj) (Nat.le_refl _)
    · exact absurd g1 h1_2
    · exact absurd g1 h1_2
def Cl0 : Cl := ⟨0, 0, false, Rq0, [], []⟩
theorem o11bad (n0 : Int) (c : Cl) (r : Rp) (hL : c.acc.length ≤ 1048576) (hc : ¬ c.OK n0) {h : Heap} {n : Nat} :
    V.Open En 11 [.int .i64 n0, .agg (c.V (.sl false true (c.rps.map Rp.T)) (.sl false true (c.acc.map An.T))), .agg r.V] h n (.tup [.agg (Cl0.V .nsl .nsl), .int .i64 1]) [(n, none)] (n + 3) := by
  refine V.Open.of_wp Tryd.func11 rfl (Nat.le_of_ble_eq_true rfl) ?_
  refine wSeq ?_
  refine wRegion ?_
  refine rbx (u := .agg [.int _ _, .int _ _, .bool _, .int _ _, .int _ _, .int _ _, .int _ _, .str _, _, _]) rfl rfl rfl rfl rfl rfl rfl ?_
  refine rbx (u := .agg [.int _ _, .int _ _, .int _ _, .int _ _, .int _ _, .int _ _, .int _ _, .str _]) rfl rfl rfl rfl rfl rfl rfl ?_
  refine ral rfl rfl rfl rfl rfl rfl ?_
  refine raI rfl rfl rfl rfl rfl ?_
  refine rNil ?_
  refine qSeq ?_
  refine wSeq ?_
  refine wSeq ?_
  refine wRegion ?_
  refine rmI rfl rfl rfl rfl rfl ?_
  (apply rlr (vs := [.int _ _, .int _ _, .bool _, .int _ _, .int _ _, .int _ _, .int _ _, .str _, _, _]) rfl rfl; (first | ((simp (disch := omega) only [↓app0, ↓appC, ↓updS, ↓updN, ↓hpS, ↓hpN]) <;> first | rfl | assumption) | assumption | rfl); rfl; rfl; (exact Nat.le_of_ble_eq_true rfl); rfl; rfl; rfl; rfl)
  refine rclP (q30 n0 c true true hL) rfl rfl rfl rfl rfl rfl ?_ ?_ <;> intro h1_2
  · refine rnot (c := true) rfl rfl rfl rfl rfl ?_
    refine rNil ?_
    refine qSeq ?_
    refine wF rfl ?_
    refine wSkip ?_
    refine qSeq ?_
    refine wSeq ?_
    exact absurd h1_2 hc
  · refine rnot (c := false) rfl rfl rfl rfl rfl ?_
    refine rNil ?_
    refine qSeq ?_
    refine wT rfl ?_
    refine wSeq ?_
    refine wRegion ?_
    refine rbd (cs := [.int _ _, .int _ _, .bool _, .int _ _, .int _ _, .int _ _, .int _ _, .str _, _, _]) rfl rfl rfl rfl rfl ?_
    (apply rst (u := .agg [.int _ _, .int _ _, .bool _, .int _ _, .int _ _, .int _ _, .int _ _, .str _, _, _]) rfl rfl rfl; (first | ((simp (disch := omega) only [↓app0, ↓appC, ↓updS, ↓updN, ↓hpS, ↓hpN]) <;> first | rfl | assumption) | assumption | rfl); rfl; rfl; rfl; rfl; rfl; (exact Nat.le_of_ble_eq_true rfl); rfl; rfl; rfl)
    refine raI rfl rfl rfl rfl rfl ?_
    refine rNil ?_
    refine qSeq ?_
    refine wRet ?_
    refine qSeqR ?_
    exact finO (resL_cons (resV_row rfl (by (first | ((simp (disch := omega) only [↓app0, ↓appC, ↓updS, ↓updN, ↓hpS, ↓hpN]) <;> first | rfl | assumption) | assumption | rfl)) rfl rfl (Nat.le_of_ble_eq_true rfl) rfl) (resL_cons rfl resL_nil)) rfl (fun hz j b hj => by
      have hjn : j ≠ n := fun e => by subst e; rw [show app [(j, none)] h j = none by simp [app, upd]] at hj; cases hj
      rw [show app [(n, none)] h j = h j by simp [app, upd, hjn]] at hj
      have : j < n := by
        rcases Nat.lt_or_ge j n with h1 | h1
        · exact h1
        · rw [hz j h1] at hj; cases hj
      simp (disch := omega) only [↓app0, ↓appC, ↓updS, ↓updN]; exact hj) (Nat.le_refl _)
theorem o11err (n0 : Int) (c : Cl) (r : Rp) (code : Int) (hL : c.acc.length ≤ 1048576) (hL2 : c.rps.length ≤ 1048576) (hc : c.OK n0) (hr : tkErr n0 c r code) {h : Heap} {n : Nat} :
    V.Open En 11 [.int .i64 n0, .agg (c.V (.sl false true (c.rps.map Rp.T)) (.sl false true (c.acc.map An.T))), .agg r.V] h n (.tup [.agg (c.V (.view (n + 6) 0 c.rps.length) (.view (n + 8) 0 c.acc.length)), .int .i64 code]) [(n + 6, some ⟨c.rps.map Rp.V, 8, 44⟩), (n + 8, some ⟨c.acc.map An.V, 4, 42⟩)] (n + 11) := by
  refine V.Open.of_wp Tryd.func11 rfl (Nat.le_of_ble_eq_true rfl) ?_
  refine wSeq ?_
  refine wRegion ?_
  refine rbx (u := .agg [.int _ _, .int _ _, .bool _, .int _ _, .int _ _, .int _ _, .int _ _, .str _, _, _]) rfl rfl rfl rfl rfl rfl rfl ?_
  refine rbx (u := .agg [.int _ _, .int _ _, .int _ _, .int _ _, .int _ _, .int _ _, .int _ _, .str _]) rfl rfl rfl rfl rfl rfl rfl ?_
  refine ral rfl rfl rfl rfl rfl rfl ?_
  refine raI rfl rfl rfl rfl rfl ?_
  refine rNil ?_
  refine qSeq ?_
  refine wSeq ?_
  refine wSeq ?_
  refine wRegion ?_
  refine rmI rfl rfl rfl rfl rfl ?_
  (apply rlr (vs := [.int _ _, .int _ _, .bool _, .int _ _, .int _ _, .int _ _, .int _ _, .str _, _, _]) rfl rfl; (first | ((simp (disch := omega) only [↓app0, ↓appC, ↓updS, ↓updN, ↓hpS, ↓hpN]) <;> first | rfl | assumption) | assumption | rfl); rfl; rfl; (exact Nat.le_of_ble_eq_true rfl); rfl; rfl; rfl; rfl)
  refine rclP (q30 n0 c true true hL) rfl rfl rfl rfl rfl rfl ?_ ?_ <;> intro h1_2
  · refine rnot (c := true) rfl rfl rfl rfl rfl ?_
    refine rNil ?_
    refine qSeq ?_
    refine wF rfl ?_
    refine wSkip ?_
    refine qSeq ?_
    refine wSeq ?_
    refine wRegion ?_
    (apply rlr (vs := [.int _ _, .int _ _, .bool _, .int _ _, .int _ _, .int _ _, .int _ _, .str _, _, _]) rfl rfl; (first | ((simp (disch := omega) only [↓app0, ↓appC, ↓updS, ↓updN, ↓hpS, ↓hpN]) <;> first | rfl | assumption) | assumption | rfl); rfl; rfl; (exact Nat.le_of_ble_eq_true rfl); rfl; rfl; rfl; rfl)
    refine rop (o16VV c hL2 hL) rfl rfl rfl rfl rfl rfl ?_
    refine ral rfl rfl rfl rfl rfl rfl ?_
    (apply rst (u := .agg [.int _ _, .int _ _, .bool _, .int _ _, .int _ _, .int _ _, .int _ _, .str _, _, _]) rfl rfl rfl; (first | ((simp (disch := omega) only [↓app0, ↓appC, ↓updS, ↓updN, ↓hpS, ↓hpN]) <;> first | rfl | assumption) | assumption | rfl); rfl; rfl; rfl; rfl; rfl; (exact Nat.le_of_ble_eq_true rfl); rfl; rfl; rfl)
    refine rNil ?_
    refine qSeq ?_
    refine wSeq ?_
    refine wRegion ?_
    refine rmI rfl rfl rfl rfl rfl ?_
    (apply rlr (vs := [.int _ _, .int _ _, .int _ _, .int _ _, .int _ _, .int _ _, .int _ _, .str _]) rfl rfl; (first | ((simp (disch := omega) only [↓app0, ↓appC, ↓updS, ↓updN, ↓hpS, ↓hpN]) <;> first | rfl | assumption) | assumption | rfl); rfl; rfl; (exact Nat.le_of_ble_eq_true rfl); rfl; rfl; rfl; rfl)
    refine rop (o32e n0 c r code hr (id := n + 9) (id1 := n + 6) (id2 := n + 8) ?_ ?_ ?_ ?_) rfl rfl rfl rfl rfl rfl ?_
    · (first | (first | ((simp (disch := omega) only [↓app0, ↓appC, ↓updS, ↓updN, ↓hpS, ↓hpN]) <;> first | rfl | assumption) | assumption | rfl) | omega)
    · (first | (first | ((simp (disch := omega) only [↓app0, ↓appC, ↓updS, ↓updN, ↓hpS, ↓hpN]) <;> first | rfl | assumption) | assumption | rfl) | omega)
    · (first | (first | ((simp (disch := omega) only [↓app0, ↓appC, ↓updS, ↓updN, ↓hpS, ↓hpN]) <;> first | rfl | assumption) | assumption | rfl) | omega)
    · (first | (first | ((simp (disch := omega) only [↓app0, ↓appC, ↓updS, ↓updN, ↓hpS, ↓hpN]) <;> first | rfl | assumption) | assumption | rfl) | omega)
    refine raI rfl rfl rfl rfl rfl ?_
    refine rNil ?_
    refine qSeq ?_
    refine wSeq ?_
    refine wRegion ?_
    (apply rlr (vs := [.int _ _, .int _ _, .bool _, .int _ _, .int _ _, .int _ _, .int _ _, .str _, _, _]) rfl rfl; (first | ((simp (disch := omega) only [↓app0, ↓appC, ↓updS, ↓updN, ↓hpS, ↓hpN]) <;> first | rfl | assumption) | assumption | rfl); rfl; rfl; (exact Nat.le_of_ble_eq_true rfl); rfl; rfl; rfl; rfl)
    refine rmI rfl rfl rfl rfl rfl ?_
    (apply rst (u := .agg [.int _ _, .int _ _, .bool _, .int _ _, .int _ _, .int _ _, .int _ _, .str _, _, _]) rfl rfl rfl; (first | ((simp (disch := omega) only [↓app0, ↓appC, ↓updS, ↓updN, ↓hpS, ↓hpN]) <;> first | rfl | assumption) | assumption | rfl); rfl; rfl; rfl; rfl; rfl; (exact Nat.le_of_ble_eq_true rfl); rfl; rfl; rfl)
    refine raI rfl rfl rfl rfl rfl ?_
    refine rNil ?_
    refine qSeq ?_
    refine wRet ?_
    exact finO (resL_cons (resV_row rfl (by (first | ((simp (disch := omega) only [↓app0, ↓appC, ↓updS, ↓updN, ↓hpS, ↓hpN]) <;> first | rfl | assumption) | assumption | rfl)) rfl rfl (Nat.le_of_ble_eq_true rfl) rfl) (resL_cons rfl resL_nil)) rfl (leWr (by
      intro j hj
      simp only [List.map_cons, List.map_nil, List.mem_cons, List.not_mem_nil, or_false] at hj
      rcases hj with rfl | rfl <;> (simp (disch := omega) only [↓app0, ↓appC, ↓updS, ↓updN]) <;> first | rfl | (fail)) (fun j hj hn => by
      simp only [List.map_cons, List.map_nil, List.mem_cons, List.not_mem_nil, or_false, not_or] at hn
      simp (disch := omega) only [↓app0, ↓appC, ↓updS, ↓updN])) (Nat.le_refl _)
  · refine rnot (c := false) rfl rfl rfl rfl rfl ?_
    refine rNil ?_
    refine qSeq ?_
    refine wT rfl ?_
    refine wSeq ?_
    exact absurd hc h1_2
theorem o11u (n0 : Int) (c : Cl) (r : Rp) (hL : c.acc.length ≤ 1048576) (hL2 : c.rps.length ≤ 1048576) (hc : c.OK n0) (hb : c.bz = true) (hr : r.OK n0 ∧ r.cl = c.id ∧ r.st = c.st) (hl : c.rps.length < 40) (hd : dec n0 c.id c.st (c.rps ++ [r]) = none) {h : Heap} {n : Nat} :
    V.Open En 11 [.int .i64 n0, .agg (c.V (.sl false true (c.rps.map Rp.T)) (.sl false true (c.acc.map An.T))), .agg r.V] h n (.tup [.agg (c.V (.view (n + 12) 0 (c.rps.length + 1)) (.view (n + 8) 0 c.acc.length)), .int .i64 0]) [(n + 12, some ⟨(c.rps ++ [r]).map Rp.V, 8, 44⟩), (n + 8, some ⟨c.acc.map An.V, 4, 42⟩)] (n + 14) := by
  refine V.Open.of_wp Tryd.func11 rfl (Nat.le_of_ble_eq_true rfl) ?_
  refine wSeq ?_
  refine wRegion ?_
  refine rbx (u := .agg [.int _ _, .int _ _, .bool _, .int _ _, .int _ _, .int _ _, .int _ _, .str _, _, _]) rfl rfl rfl rfl rfl rfl rfl ?_
  refine rbx (u := .agg [.int _ _, .int _ _, .int _ _, .int _ _, .int _ _, .int _ _, .int _ _, .str _]) rfl rfl rfl rfl rfl rfl rfl ?_
  refine ral rfl rfl rfl rfl rfl rfl ?_
  refine raI rfl rfl rfl rfl rfl ?_
  refine rNil ?_
  refine qSeq ?_
  refine wSeq ?_
  refine wSeq ?_
  refine wRegion ?_
  refine rmI rfl rfl rfl rfl rfl ?_
  (apply rlr (vs := [.int _ _, .int _ _, .bool _, .int _ _, .int _ _, .int _ _, .int _ _, .str _, _, _]) rfl rfl; (first | ((simp (disch := omega) only [↓app0, ↓appC, ↓updS, ↓updN, ↓hpS, ↓hpN]) <;> first | rfl | assumption) | assumption | rfl); rfl; rfl; (exact Nat.le_of_ble_eq_true rfl); rfl; rfl; rfl; rfl)
  refine rclP (q30 n0 c true true hL) rfl rfl rfl rfl rfl rfl ?_ ?_ <;> intro h1_2
  · refine rnot (c := true) rfl rfl rfl rfl rfl ?_
    refine rNil ?_
    refine qSeq ?_
    refine wF rfl ?_
    refine wSkip ?_
    refine qSeq ?_
    refine wSeq ?_
    refine wRegion ?_
    (apply rlr (vs := [.int _ _, .int _ _, .bool _, .int _ _, .int _ _, .int _ _, .int _ _, .str _, _, _]) rfl rfl; (first | ((simp (disch := omega) only [↓app0, ↓appC, ↓updS, ↓updN, ↓hpS, ↓hpN]) <;> first | rfl | assumption) | assumption | rfl); rfl; rfl; (exact Nat.le_of_ble_eq_true rfl); rfl; rfl; rfl; rfl)
    refine rop (o16VV c hL2 hL) rfl rfl rfl rfl rfl rfl ?_
    refine ral rfl rfl rfl rfl rfl rfl ?_
    (apply rst (u := .agg [.int _ _, .int _ _, .bool _, .int _ _, .int _ _, .int _ _, .int _ _, .str _, _, _]) rfl rfl rfl; (first | ((simp (disch := omega) only [↓app0, ↓appC, ↓updS, ↓updN, ↓hpS, ↓hpN]) <;> first | rfl | assumption) | assumption | rfl); rfl; rfl; rfl; rfl; rfl; (exact Nat.le_of_ble_eq_true rfl); rfl; rfl; rfl)
    refine rNil ?_
    refine qSeq ?_
    refine wSeq ?_
    refine wRegion ?_
    refine rmI rfl rfl rfl rfl rfl ?_
    (apply rlr (vs := [.int _ _, .int _ _, .int _ _, .int _ _, .int _ _, .int _ _, .int _ _, .str _]) rfl rfl; (first | ((simp (disch := omega) only [↓app0, ↓appC, ↓updS, ↓updN, ↓hpS, ↓hpN]) <;> first | rfl | assumption) | assumption | rfl); rfl; rfl; (exact Nat.le_of_ble_eq_true rfl); rfl; rfl; rfl; rfl)
    refine rop (o21VVu n0 c r hb hr hl hL hd (id := n + 9) (id1 := n + 6) (id2 := n + 8) ?_ ?_ ?_ ?_ ?_ ?_ ?_ ?_ ?_) rfl rfl rfl rfl rfl rfl ?_
    · (first | (first | ((simp (disch := omega) only [↓app0, ↓appC, ↓updS, ↓updN, ↓hpS, ↓hpN]) <;> first | rfl | assumption) | assumption | rfl) | omega)
    · (first | (first | ((simp (disch := omega) only [↓app0, ↓appC, ↓updS, ↓updN, ↓hpS, ↓hpN]) <;> first | rfl | assumption) | assumption | rfl) | omega)
    · (first | (first | ((simp (disch := omega) only [↓app0, ↓appC, ↓updS, ↓updN, ↓hpS, ↓hpN]) <;> first | rfl | assumption) | assumption | rfl) | omega)
    · (first | (first | ((simp (disch := omega) only [↓app0, ↓appC, ↓updS, ↓updN, ↓hpS, ↓hpN]) <;> first | rfl | assumption) | assumption | rfl) | omega)
    · (first | (first | ((simp (disch := omega) only [↓app0, ↓appC, ↓updS, ↓updN, ↓hpS, ↓hpN]) <;> first | rfl | assumption) | assumption | rfl) | omega)
    · (first | (first | ((simp (disch := omega) only [↓app0, ↓appC, ↓updS, ↓updN, ↓hpS, ↓hpN]) <;> first | rfl | assumption) | assumption | rfl) | omega)
    · (first | (first | ((simp (disch := omega) only [↓app0, ↓appC, ↓updS, ↓updN, ↓hpS, ↓hpN]) <;> first | rfl | assumption) | assumption | rfl) | omega)
    · (first | (first | ((simp (disch := omega) only [↓app0, ↓appC, ↓updS, ↓updN, ↓hpS, ↓hpN]) <;> first | rfl | assumption) | assumption | rfl) | omega)
    · (first | (first | ((simp (disch := omega) only [↓app0, ↓appC, ↓updS, ↓updN, ↓hpS, ↓hpN]) <;> first | rfl | assumption) | assumption | rfl) | omega)
    refine raI rfl rfl rfl rfl rfl ?_
    refine rNil ?_
    refine qSeq ?_
    refine wSeq ?_
    refine wRegion ?_
    (apply rlr (vs := [.int _ _, .int _ _, .bool _, .int _ _, .int _ _, .int _ _, .int _ _, .str _, _, _]) rfl rfl; (first | ((simp (disch := omega) only [↓app0, ↓appC, ↓updS, ↓updN, ↓hpS, ↓hpN]) <;> first | rfl | assumption) | assumption | rfl); rfl; rfl; (exact Nat.le_of_ble_eq_true rfl); rfl; rfl; rfl; rfl)
    refine rmI rfl rfl rfl rfl rfl ?_
    (apply rst (u := .agg [.int _ _, .int _ _, .bool _, .int _ _, .int _ _, .int _ _, .int _ _, .str _, _, _]) rfl rfl rfl; (first | ((simp (disch := omega) only [↓app0, ↓appC, ↓updS, ↓updN, ↓hpS, ↓hpN]) <;> first | rfl | assumption) | assumption | rfl); rfl; rfl; rfl; rfl; rfl; (exact Nat.le_of_ble_eq_true rfl); rfl; rfl; rfl)
    refine raI rfl rfl rfl rfl rfl ?_
    refine rNil ?_
    refine qSeq ?_
    refine wRet ?_
    exact finO (resL_cons (resV_row rfl (by (first | ((simp (disch := omega) only [↓app0, ↓appC, ↓updS, ↓updN, ↓hpS, ↓hpN]) <;> first | rfl | assumption) | assumption | rfl)) rfl rfl (Nat.le_of_ble_eq_true rfl) rfl) (resL_cons rfl resL_nil)) rfl (leWr (by
      intro j hj
      simp only [List.map_cons, List.map_nil, List.mem_cons, List.not_mem_nil, or_false] at hj
      rcases hj with rfl | rfl <;> (simp (disch := omega) only [↓app0, ↓appC, ↓updS, ↓updN]) <;> first | rfl | (fail)) (fun j hj hn => by
      simp only [List.map_cons, List.map_nil, List.mem_cons, List.not_mem_nil, or_false, not_or] at hn
      simp (disch := omega) only [↓app0, ↓appC, ↓updS, ↓updN])) (Nat.le_refl _)
  · refine rnot (c := false) rfl rfl rfl rfl rfl ?_
    refine rNil ?_
    refine qSeq ?_
    refine wT rfl ?_
    refine wSeq ?_
    exact absurd hc h1_2
theorem o11d (n0 : Int) (c : Cl) (r : Rp) (hL : c.acc.length ≤ 1048576) (hL2 : c.rps.length ≤ 1048576) (hc : c.OK n0) (hb : c.bz = true) (hr : r.OK n0 ∧ r.cl = c.id ∧ r.st = c.st) (hl : c.rps.length < 40) {a : An} (hd : dec n0 c.id c.st (c.rps ++ [r]) = some a) {h : Heap} {n : Nat} :
    V.Open En 11 [.int .i64 n0, .agg (c.V (.sl false true (c.rps.map Rp.T)) (.sl false true (c.acc.map An.T))), .agg r.V] h n (.tup [.agg ((Cl.mk c.id c.st false Rq0 [] []).V .nsl (.view (n + 15) 0 (c.acc.length + 1))), .int .i64 0]) [(n + 15, some ⟨(c.acc ++ [a]).map An.V, 4, 42⟩)] (n + 16) := by
  refine V.Open.of_wp Tryd.func11 rfl (Nat.le_of_ble_eq_true rfl) ?_
  refine wSeq ?_
  refine wRegion ?_
  refine rbx (u := .agg [.int _ _, .int _ _, .bool _, .int _ _, .int _ _, .int _ _, .int _ _, .str _, _, _]) rfl rfl rfl rfl rfl rfl rfl ?_
  refine rbx (u := .agg [.int _ _, .int _ _, .int _ _, .int _ _, .int _ _, .int _ _, .int _ _, .str _]) rfl rfl rfl rfl rfl rfl rfl ?_
  refine ral rfl rfl rfl rfl rfl rfl ?_
  refine raI rfl rfl rfl rfl rfl ?_
  refine rNil ?_
  refine qSeq ?_
  refine wSeq ?_
  refine wSeq ?_
  refine wRegion ?_
  refine rmI rfl rfl rfl rfl rfl ?_
  (apply rlr (vs := [.int _ _, .int _ _, .bool _, .int _ _, .int _ _, .int _ _, .int _ _, .str _, _, _]) rfl rfl; (first | ((simp (disch := omega) only [↓app0, ↓appC, ↓updS, ↓updN, ↓hpS, ↓hpN]) <;> first | rfl | assumption) | assumption | rfl); rfl; rfl; (exact Nat.le_of_ble_eq_true rfl); rfl; rfl; rfl; rfl)
  refine rclP (q30 n0 c true true hL) rfl rfl rfl rfl rfl rfl ?_ ?_ <;> intro h1_2
  · refine rnot (c := true) rfl rfl rfl rfl rfl ?_
    refine rNil ?_
    refine qSeq ?_
    refine wF rfl ?_
    refine wSkip ?_
    refine qSeq ?_
    refine wSeq ?_
    refine wRegion ?_
    (apply rlr (vs := [.int _ _, .int _ _, .bool _, .int _ _, .int _ _, .int _ _, .int _ _, .str _, _, _]) rfl rfl; (first | ((simp (disch := omega) only [↓app0, ↓appC, ↓updS, ↓updN, ↓hpS, ↓hpN]) <;> first | rfl | assumption) | assumption | rfl); rfl; rfl; (exact Nat.le_of_ble_eq_true rfl); rfl; rfl; rfl; rfl)
    refine rop (o16VV c hL2 hL) rfl rfl rfl rfl rfl rfl ?_
    refine ral rfl rfl rfl rfl rfl rfl ?_
    (apply rst (u := .agg [.int _ _, .int _ _, .bool _, .int _ _, .int _ _, .int _ _, .int _ _, .str _, _, _]) rfl rfl rfl; (first | ((simp (disch := omega) only [↓app0, ↓appC, ↓updS, ↓updN, ↓hpS, ↓hpN]) <;> first | rfl | assumption) | assumption | rfl); rfl; rfl; rfl; rfl; rfl; (exact Nat.le_of_ble_eq_true rfl); rfl; rfl; rfl)
    refine rNil ?_
    refine qSeq ?_
    refine wSeq ?_
    refine wRegion ?_
    refine rmI rfl rfl rfl rfl rfl ?_
    (apply rlr (vs := [.int _ _, .int _ _, .int _ _, .int _ _, .int _ _, .int _ _, .int _ _, .str _]) rfl rfl; (first | ((simp (disch := omega) only [↓app0, ↓appC, ↓updS, ↓updN, ↓hpS, ↓hpN]) <;> first | rfl | assumption) | assumption | rfl); rfl; rfl; (exact Nat.le_of_ble_eq_true rfl); rfl; rfl; rfl; rfl)
    refine rop (o21VVd n0 c r hb hr hl hL hd (id := n + 9) (id1 := n + 6) (id2 := n + 8) ?_ ?_ ?_ ?_ ?_ ?_ ?_ ?_ ?_) rfl rfl rfl rfl rfl rfl ?_
    · (first | (first | ((simp (disch := omega) only [↓app0, ↓appC, ↓updS, ↓updN, ↓hpS, ↓hpN]) <;> first | rfl | assumption) | assumption | rfl) | omega)
    · (first | (first | ((simp (disch := omega) only [↓app0, ↓appC, ↓updS, ↓updN, ↓hpS, ↓hpN]) <;> first | rfl | assumption) | assumption | rfl) | omega)
    · (first | (first | ((simp (disch := omega) only [↓app0, ↓appC, ↓updS, ↓updN, ↓hpS, ↓hpN]) <;> first | rfl | assumption) | assumption | rfl) | omega)
    · (first | (first | ((simp (disch := omega) only [↓app0, ↓appC, ↓updS, ↓updN, ↓hpS, ↓hpN]) <;> first | rfl | assumption) | assumption | rfl) | omega)
    · (first | (first | ((simp (disch := omega) only [↓app0, ↓appC, ↓updS, ↓updN, ↓hpS, ↓hpN]) <;> first | rfl | assumption) | assumption | rfl) | omega)
    · (first | (first | ((simp (disch := omega) only [↓app0, ↓appC, ↓updS, ↓updN, ↓hpS, ↓hpN]) <;> first | rfl | assumption) | assumption | rfl) | omega)
    · (first | (first | ((simp (disch := omega) only [↓app0, ↓appC, ↓updS, ↓updN, ↓hpS, ↓hpN]) <;> first | rfl | assumption) | assumption | rfl) | omega)
    · (first | (first | ((simp (disch := omega) only [↓app0, ↓appC, ↓updS, ↓updN, ↓hpS, ↓hpN]) <;> first | rfl | assumption) | assumption | rfl) | omega)
    · (first | (first | ((simp (disch := omega) only [↓app0, ↓appC, ↓updS, ↓updN, ↓hpS, ↓hpN]) <;> first | rfl | assumption) | assumption | rfl) | omega)
    refine raI rfl rfl rfl rfl rfl ?_
    refine rNil ?_
    refine qSeq ?_
    refine wSeq ?_
    refine wRegion ?_
    (apply rlr (vs := [.int _ _, .int _ _, .bool _, .int _ _, .int _ _, .int _ _, .int _ _, .str _, _, _]) rfl rfl; (first | ((simp (disch := omega) only [↓app0, ↓appC, ↓updS, ↓updN, ↓hpS, ↓hpN]) <;> first | rfl | assumption) | assumption | rfl); rfl; rfl; (exact Nat.le_of_ble_eq_true rfl); rfl; rfl; rfl; rfl)
    refine rmI rfl rfl rfl rfl rfl ?_
    (apply rst (u := .agg [.int _ _, .int _ _, .bool _, .int _ _, .int _ _, .int _ _, .int _ _, .str _, _, _]) rfl rfl rfl; (first | ((simp (disch := omega) only [↓app0, ↓appC, ↓updS, ↓updN, ↓hpS, ↓hpN]) <;> first | rfl | assumption) | assumption | rfl); rfl; rfl; rfl; rfl; rfl; (exact Nat.le_of_ble_eq_true rfl); rfl; rfl; rfl)
    refine raI rfl rfl rfl rfl rfl ?_
    refine rNil ?_
    refine qSeq ?_
    refine wRet ?_
    exact finO (resL_cons (resV_row rfl (by (first | ((simp (disch := omega) only [↓app0, ↓appC, ↓updS, ↓updN, ↓hpS, ↓hpN]) <;> first | rfl | assumption) | assumption | rfl)) rfl rfl (Nat.le_of_ble_eq_true rfl) rfl) (resL_cons rfl resL_nil)) rfl (leWr (by
      intro j hj
      simp only [List.map_cons, List.map_nil, List.mem_cons, List.not_mem_nil, or_false] at hj
      rcases hj with rfl <;> (simp (disch := omega) only [↓app0, ↓appC, ↓updS, ↓updN]) <;> first | rfl | (fail)) (fun j hj hn => by
      simp only [List.map_cons, List.map_nil, List.mem_cons, List.not_mem_nil, or_false, not_or] at hn
      simp (disch := omega) only [↓app0, ↓appC, ↓updS, ↓updN])) (Nat.le_refl _)
  · refine rnot (c := false) rfl rfl rfl rfl rfl ?_
    refine rNil ?_
    refine qSeq ?_
    refine wT rfl ?_
    refine wSeq ?_
    exact absurd hc h1_2
end Go.Proofs.YtcafccndgpopkaaDoor
