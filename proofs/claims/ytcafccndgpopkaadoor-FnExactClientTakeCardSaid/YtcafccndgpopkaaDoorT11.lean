import Derived.Test.YtcafccndgpopkaaDoorT10
namespace Go.Proofs.YtcafccndgpopkaaDoor
open Go.V
set_option linter.unusedVariables false
set_option linter.unusedSimpArgs false
set_option maxRecDepth 20000
set_option maxHeartbeats 4000000

/-! spec.ClientTake. -/
theorem snapVR {h : Heap} {ids : List Nat} {r : Bool} {id m : Nat} {L : List Rp} (hid : id ∈ ids) (hb : h id = some ⟨L.map Rp.V, 8, 44⟩) (hm : m = L.length) : Snap h ids r (.view id 0 m) (.sl true (L.map Rp.T)) :=
  snapView (L.map Rp.T) hid hb (rowsRp2 L).symm (by rw [List.length_map]; exact hm)
theorem snapVA {h : Heap} {ids : List Nat} {r : Bool} {id m : Nat} {L : List An} (hid : id ∈ ids) (hb : h id = some ⟨L.map An.V, 4, 42⟩) (hm : m = L.length) : Snap h ids r (.view id 0 m) (.sl true (L.map An.T)) :=
  snapView (L.map An.T) hid hb (rowsAn2 L).symm (by rw [List.length_map]; exact hm)
theorem s25 (c : Cl) (n1 n2 : Bool) (h1 : c.rps.length ≤ 1048577) (h2 : c.acc.length ≤ 1048577) : Pure En 25 [.agg (c.T n1 n2)] [.agg (c.T true true)] := by
  refine Pure.of_wp Tryd.func25 rfl (Nat.le_of_ble_eq_true rfl) ?_
  refine wSeq ?_
  refine wRegion ?_
  refine rbx (u := .agg [.int _ _, .int _ _, .bool _, .int _ _, .int _ _, .int _ _, .int _ _, .str _, _, _]) rfl rfl rfl rfl rfl rfl rfl ?_
  refine ral rfl rfl rfl rfl rfl rfl ?_
  refine rNil ?_
  refine qSeq ?_
  refine wSeq ?_
  refine wRegion ?_
  refine rbs (es := []) rfl rfl rfl rfl (Nat.succ_ne_zero _) (Nat.le_of_ble_eq_true rfl) rfl rfl rfl rfl rfl ?_
  refine rfa (off := 8) (s := 1) (r := false) rfl rfl rfl (Nat.succ_ne_zero _) rfl rfl rfl ?_
  (apply rlc (v := .sl _ _ _) rfl rfl; (first | ((simp (disch := omega) only [↓app0, ↓appC, ↓updS, ↓updN, ↓hpS, ↓hpN]) <;> first | rfl | assumption) | assumption | rfl); rfl; rfl; rfl; rfl; rfl; rfl)
  (apply rap (s' := 72) rfl rfl; (first | ((simp (disch := omega) only [↓app0, ↓appC, ↓updS, ↓updN, ↓hpS, ↓hpN]) <;> first | rfl | assumption) | assumption | rfl); rfl; rfl; (first | rfl | (focus (simp only [List.length_append, List.length_drop, List.length_map, List.length_cons, List.length_nil, Nat.sub_zero, Nat.zero_add]; done)) | (focus (simp only [List.length_append, List.length_drop, List.length_map, List.length_cons, List.length_nil, Nat.sub_zero, Nat.zero_add]; omega))); rfl; rfl; exact (Nat.succ_ne_zero _); rfl; exact (lenRpF false c.rps); (first | exact Nat.le_of_ble_eq_true rfl | (focus (simp only [List.length_append, List.length_drop, List.length_map, List.length_cons, List.length_nil, Nat.sub_zero, Nat.zero_add]; omega)) | omega); (first | exact Nat.le_of_ble_eq_true rfl | (focus (simp only [List.length_append, List.length_drop, List.length_map, List.length_cons, List.length_nil, Nat.sub_zero, Nat.zero_add]; omega)) | omega); rfl; rfl; rfl)
  refine rfa (off := 8) (s := 1) (r := false) rfl rfl rfl (Nat.succ_ne_zero _) rfl rfl rfl ?_
  (apply rst (u := .view _ _ _) rfl rfl rfl; (first | ((simp (disch := omega) only [↓app0, ↓appC, ↓updS, ↓updN, ↓hpS, ↓hpN]) <;> first | rfl | assumption) | assumption | rfl); rfl; rfl; rfl; rfl; rfl; (exact Nat.le_of_ble_eq_true rfl); rfl; rfl; rfl)
  refine rNil ?_
  refine qSeq ?_
  refine wSeq ?_
  refine wRegion ?_
  refine rbs (es := []) rfl rfl rfl rfl (Nat.succ_ne_zero _) (Nat.le_of_ble_eq_true rfl) rfl rfl rfl rfl rfl ?_
  refine rfa (off := 9) (s := 1) (r := false) rfl rfl rfl (Nat.succ_ne_zero _) rfl rfl rfl ?_
  (apply rlc (v := .sl _ _ _) rfl rfl; (first | ((simp (disch := omega) only [↓app0, ↓appC, ↓updS, ↓updN, ↓hpS, ↓hpN]) <;> first | rfl | assumption) | assumption | rfl); rfl; rfl; rfl; rfl; rfl; rfl)
  (apply rap (s' := 32) rfl rfl; (first | ((simp (disch := omega) only [↓app0, ↓appC, ↓updS, ↓updN, ↓hpS, ↓hpN]) <;> first | rfl | assumption) | assumption | rfl); rfl; rfl; (first | rfl | (focus (simp only [List.length_append, List.length_drop, List.length_map, List.length_cons, List.length_nil, Nat.sub_zero, Nat.zero_add]; done)) | (focus (simp only [List.length_append, List.length_drop, List.length_map, List.length_cons, List.length_nil, Nat.sub_zero, Nat.zero_add]; omega))); rfl; rfl; exact (Nat.succ_ne_zero _); rfl; exact (lenAnF false c.acc); (first | exact Nat.le_of_ble_eq_true rfl | (focus (simp only [List.length_append, List.length_drop, List.length_map, List.length_cons, List.length_nil, Nat.sub_zero, Nat.zero_add]; omega)) | omega); (first | exact Nat.le_of_ble_eq_true rfl | (focus (simp only [List.length_append, List.length_drop, List.length_map, List.length_cons, List.length_nil, Nat.sub_zero, Nat.zero_add]; omega)) | omega); rfl; rfl; rfl)
  refine rfa (off := 9) (s := 1) (r := false) rfl rfl rfl (Nat.succ_ne_zero _) rfl rfl rfl ?_
  (apply rst (u := .view _ _ _) rfl rfl rfl; (first | ((simp (disch := omega) only [↓app0, ↓appC, ↓updS, ↓updN, ↓hpS, ↓hpN]) <;> first | rfl | assumption) | assumption | rfl); rfl; rfl; rfl; rfl; rfl; (exact Nat.le_of_ble_eq_true rfl); rfl; rfl; rfl)
  refine rNil ?_
  refine qSeq ?_
  refine wSeq ?_
  refine wRegion ?_
  (apply rlr (vs := [.int _ _, .int _ _, .bool _, .int _ _, .int _ _, .int _ _, .int _ _, .str _, _, _]) rfl rfl; (first | ((simp (disch := omega) only [↓app0, ↓appC, ↓updS, ↓updN, ↓hpS, ↓hpN]) <;> first | rfl | assumption) | assumption | rfl); rfl; rfl; (exact Nat.le_of_ble_eq_true rfl); rfl; rfl; rfl; rfl)
  (apply rst (u := .agg [.int _ _, .int _ _, .bool _, .int _ _, .int _ _, .int _ _, .int _ _, .str _, _, _]) rfl rfl rfl; (first | ((simp (disch := omega) only [↓app0, ↓appC, ↓updS, ↓updN, ↓hpS, ↓hpN]) <;> first | rfl | assumption) | assumption | rfl); rfl; rfl; rfl; rfl; rfl; (exact Nat.le_of_ble_eq_true rfl); rfl; rfl; rfl)
  refine rNil ?_
  refine qSeq ?_
  refine wRet ?_
  refine finS [3, 5] (resL_cons (resV_row rfl (by (first | ((simp (disch := omega) only [↓app0, ↓appC, ↓updS, ↓updN, ↓hpS, ↓hpN]) <;> first | rfl | assumption) | assumption | rfl)) rfl rfl (Nat.le_of_ble_eq_true rfl) rfl) resL_nil) ?_
  exact (SnapL.cons _ _ _ _ (SnapC.agg (.cons _ _ _ _ (.int _ _) (.cons _ _ _ _ (.int _ _) (.cons _ _ _ _ (.bool _) (.cons _ _ _ _ (.int _ _) (.cons _ _ _ _ (.int _ _) (.cons _ _ _ _ (.int _ _) (.cons _ _ _ _ (.int _ _) (.cons _ _ _ _ (.str _) (.cons _ _ _ _ (snapVR (L := c.rps) (by simp) (by ((simp (disch := omega) only [↓app0, ↓appC, ↓updS, ↓updN, ↓hpS, ↓hpN]) <;> first | rfl | assumption | exact congrArg (fun z => some (Blk.mk z 8 44)) (rowsRpV false _))) (by simp)) (.cons _ _ _ _ (snapVA (L := c.acc) (by simp) (by ((simp (disch := omega) only [↓app0, ↓appC, ↓updS, ↓updN, ↓hpS, ↓hpN]) <;> first | rfl | assumption | exact congrArg (fun z => some (Blk.mk z 4 42)) (rowsAnV false _))) (by simp)) .nil))))))))))) SnapL.nil)
theorem s24e (n0 : Int) (c : Cl) (r : Rp) (n1 n2 : Bool) (code : Int) (hn : nodes n0) (hc : tkErr n0 c r code) {h : Heap} {n : Nat} :
    V.Open En 24 [.int .i64 n0, .agg (c.V (.sl false n1 (c.rps.map Rp.T)) (.sl false n2 (c.acc.map An.T))), .agg r.V] h n (.tup [.agg (c.V (.sl false n1 (c.rps.map Rp.T)) (.sl false n2 (c.acc.map An.T))), .int .i64 code]) [] (n + 3) := by
  unfold tkErr at hc
  have hl : (c.rps.map Rp.T).length = c.rps.length := List.length_map ..
  obtain ⟨ci, cs, cb, cr, rps, acc⟩ := c
  unfold Cl.V
  dsimp only at *
  refine V.Open.of_wp Tryd.func24 rfl (Nat.le_of_ble_eq_true rfl) ?_
  refine wSeq ?_
  refine wRegion ?_
  refine rbx (u := .agg [.int _ _, .int _ _, .bool _, .int _ _, .int _ _, .int _ _, .int _ _, .str _, _, _]) rfl rfl rfl rfl rfl rfl rfl ?_
  refine rbx (u := .agg [.int _ _, .int _ _, .int _ _, .int _ _, .int _ _, .int _ _, .int _ _, .str _]) rfl rfl rfl rfl rfl rfl rfl ?_
  refine ral rfl rfl rfl rfl rfl rfl ?_
  refine raI rfl rfl rfl rfl rfl ?_
  refine rNil ?_
  refine qSeq ?_
  refine wSeq ?_
  refine wBlock ?_
  refine wSeq ?_
  refine wRegion ?_
  refine rmI rfl rfl rfl rfl rfl ?_
  (apply rlr (vs := [.int _ _, .int _ _, .int _ _, .int _ _, .int _ _, .int _ _, .int _ _, .str _]) rfl rfl; (first | ((simp (disch := omega) only [↓app0, ↓appC, ↓updS, ↓updN, ↓hpS, ↓hpN]) <;> first | rfl | assumption) | assumption | rfl); rfl; rfl; (exact Nat.le_of_ble_eq_true rfl); rfl; rfl; rfl; rfl)
  refine rclP (s53 n0 r) rfl rfl rfl rfl rfl rfl ?_ ?_ <;> intro h1_2
  · refine rnot (c := true) rfl rfl rfl rfl rfl ?_
    refine raB rfl rfl rfl rfl rfl ?_
    refine rNil ?_
    refine qSeq ?_
    refine wF rfl ?_
    refine wSeq ?_
    refine wRegion ?_
    refine rfa (off := 2) (s := 1) (r := false) rfl rfl rfl (Nat.succ_ne_zero _) rfl rfl rfl ?_
    ((apply rlcB rfl rfl; (first | ((simp (disch := omega) only [↓app0, ↓appC, ↓updS, ↓updN, ↓hpS, ↓hpN]) <;> first | rfl | assumption) | assumption | rfl); rfl; rfl; rfl; rfl; rfl; rfl)) <;> intro h3_1
    · refine rnot (c := true) rfl rfl rfl rfl rfl ?_
      refine rmB rfl rfl rfl rfl rfl ?_
      refine rfa (off := 1) (s := 1) (r := false) rfl rfl rfl (Nat.succ_ne_zero _) rfl rfl rfl ?_
      (apply rlc (v := .int _ _) rfl rfl; (first | ((simp (disch := omega) only [↓app0, ↓appC, ↓updS, ↓updN, ↓hpS, ↓hpN]) <;> first | rfl | assumption) | assumption | rfl); rfl; rfl; rfl; rfl; rfl; rfl)
      refine rfa (off := 0) (s := 1) (r := false) rfl rfl rfl (Nat.succ_ne_zero _) rfl rfl rfl ?_
      (apply rlc (v := .int _ _) rfl rfl; (first | ((simp (disch := omega) only [↓app0, ↓appC, ↓updS, ↓updN, ↓hpS, ↓hpN]) <;> first | rfl | assumption) | assumption | rfl); rfl; rfl; rfl; rfl; rfl; rfl)
      refine rne rfl rfl rfl rfl rfl rfl ?_ ?_ <;> intro h3_8
      · refine rpk (e := true) rfl rfl rfl rfl rfl rfl ?_
        refine rmB rfl rfl rfl rfl rfl ?_
        refine rSkip rfl rfl rfl ?_
        refine rSkip rfl rfl rfl ?_
        refine rSkip rfl rfl rfl ?_
        refine rSkip rfl rfl rfl ?_
        refine rSkip rfl rfl rfl ?_
        refine rpk (e := true) rfl rfl rfl rfl rfl rfl ?_
        refine raB rfl rfl rfl rfl rfl ?_
        refine rNil ?_
        refine qSeq ?_
        refine wT rfl ?_
        refine wSeq ?_
        refine wRegion ?_
        (apply rlr (vs := [.int _ _, .int _ _, .bool _, .int _ _, .int _ _, .int _ _, .int _ _, .str _, _, _]) rfl rfl; (first | ((simp (disch := omega) only [↓app0, ↓appC, ↓updS, ↓updN, ↓hpS, ↓hpN]) <;> first | rfl | assumption) | assumption | rfl); rfl; rfl; (exact Nat.le_of_ble_eq_true rfl); rfl; rfl; rfl; rfl)
        (apply rst (u := .agg [.int _ _, .int _ _, .bool _, .int _ _, .int _ _, .int _ _, .int _ _, .str _, _, _]) rfl rfl rfl; (first | ((simp (disch := omega) only [↓app0, ↓appC, ↓updS, ↓updN, ↓hpS, ↓hpN]) <;> first | rfl | assumption) | assumption | rfl); rfl; rfl; rfl; rfl; rfl; (exact Nat.le_of_ble_eq_true rfl); rfl; rfl; rfl)
        refine raI rfl rfl rfl rfl rfl ?_
        refine rNil ?_
        refine qSeq ?_
        refine wRet ?_
        refine qBlockR ?_
        refine qSeqR ?_
        rcases hc with ⟨g1, g2⟩ | ⟨g1, g2, g3⟩ | ⟨g1, g2, g3, g4, g5, g6⟩
        · exact absurd ((fits_OK hn r).1 h1_2) g1
        · subst g3; exact finO (resL_cons (resV_row rfl (by (first | ((simp (disch := omega) only [↓app0, ↓appC, ↓updS, ↓updN, ↓hpS, ↓hpN]) <;> first | rfl | assumption) | assumption | rfl)) rfl rfl (Nat.le_of_ble_eq_true rfl) rfl) (resL_cons rfl resL_nil)) rfl (fun hz j b hj => by
            have : j < n := by
              rcases Nat.lt_or_ge j n with h1 | h1
              · exact h1
              · rw [show app [] h j = h j from rfl, hz j h1] at hj; cases hj
            simp (disch := omega) only [↓app0, ↓appC, ↓updS, ↓updN]; exact hj) (Nat.le_refl _)
        · first | exact absurd g3 h3_8 | exact absurd g4 h3_15 | (rw [g2] at h3_1; cases h3_1; done)
      · refine rpk (e := false) rfl rfl rfl rfl rfl rfl ?_
        refine rmB rfl rfl rfl rfl rfl ?_
        refine rfa (off := 2) (s := 1) (r := false) rfl rfl rfl (Nat.succ_ne_zero _) rfl rfl rfl ?_
        (apply rlc (v := .int _ _) rfl rfl; (first | ((simp (disch := omega) only [↓app0, ↓appC, ↓updS, ↓updN, ↓hpS, ↓hpN]) <;> first | rfl | assumption) | assumption | rfl); rfl; rfl; rfl; rfl; rfl; rfl)
        refine rfa (off := 1) (s := 1) (r := false) rfl rfl rfl (Nat.succ_ne_zero _) rfl rfl rfl ?_
        (apply rlc (v := .int _ _) rfl rfl; (first | ((simp (disch := omega) only [↓app0, ↓appC, ↓updS, ↓updN, ↓hpS, ↓hpN]) <;> first | rfl | assumption) | assumption | rfl); rfl; rfl; rfl; rfl; rfl; rfl)
        refine rne rfl rfl rfl rfl rfl rfl ?_ ?_ <;> intro h3_15
        · refine rpk (e := true) rfl rfl rfl rfl rfl rfl ?_
          refine raB rfl rfl rfl rfl rfl ?_
          refine rNil ?_
          refine qSeq ?_
          refine wT rfl ?_
          refine wSeq ?_
          refine wRegion ?_
          (apply rlr (vs := [.int _ _, .int _ _, .bool _, .int _ _, .int _ _, .int _ _, .int _ _, .str _, _, _]) rfl rfl; (first | ((simp (disch := omega) only [↓app0, ↓appC, ↓updS, ↓updN, ↓hpS, ↓hpN]) <;> first | rfl | assumption) | assumption | rfl); rfl; rfl; (exact Nat.le_of_ble_eq_true rfl); rfl; rfl; rfl; rfl)
          (apply rst (u := .agg [.int _ _, .int _ _, .bool _, .int _ _, .int _ _, .int _ _, .int _ _, .str _, _, _]) rfl rfl rfl; (first | ((simp (disch := omega) only [↓app0, ↓appC, ↓updS, ↓updN, ↓hpS, ↓hpN]) <;> first | rfl | assumption) | assumption | rfl); rfl; rfl; rfl; rfl; rfl; (exact Nat.le_of_ble_eq_true rfl); rfl; rfl; rfl)
          refine raI rfl rfl rfl rfl rfl ?_
          refine rNil ?_
          refine qSeq ?_
          refine wRet ?_
          refine qBlockR ?_
          refine qSeqR ?_
          rcases hc with ⟨g1, g2⟩ | ⟨g1, g2, g3⟩ | ⟨g1, g2, g3, g4, g5, g6⟩
          · exact absurd ((fits_OK hn r).1 h1_2) g1
          · subst g3; exact finO (resL_cons (resV_row rfl (by (first | ((simp (disch := omega) only [↓app0, ↓appC, ↓updS, ↓updN, ↓hpS, ↓hpN]) <;> first | rfl | assumption) | assumption | rfl)) rfl rfl (Nat.le_of_ble_eq_true rfl) rfl) (resL_cons rfl resL_nil)) rfl (fun hz j b hj => by
              have : j < n := by
                rcases Nat.lt_or_ge j n with h1 | h1
                · exact h1
                · rw [show app [] h j = h j from rfl, hz j h1] at hj; cases hj
              simp (disch := omega) only [↓app0, ↓appC, ↓updS, ↓updN]; exact hj) (Nat.le_refl _)
          · first | exact absurd g3 h3_8 | exact absurd g4 h3_15 | (rw [g2] at h3_1; cases h3_1; done)
        · refine rpk (e := false) rfl rfl rfl rfl rfl rfl ?_
          refine raB rfl rfl rfl rfl rfl ?_
          refine rNil ?_
          refine qSeq ?_
          refine wF rfl ?_
          refine wSeq ?_
          refine wRegion ?_
          refine rfa (off := 8) (s := 1) (r := false) rfl rfl rfl (Nat.succ_ne_zero _) rfl rfl rfl ?_
          (apply rlc (v := .sl _ _ _) rfl rfl; (first | ((simp (disch := omega) only [↓app0, ↓appC, ↓updS, ↓updN, ↓hpS, ↓hpN]) <;> first | rfl | assumption) | assumption | rfl); rfl; rfl; rfl; rfl; rfl; rfl)
          refine rll rfl rfl rfl rfl rfl rfl ?_
          refine req rfl rfl rfl rfl rfl rfl ?_ ?_ <;> intro h5_3
          · refine raB rfl rfl rfl rfl rfl ?_
            refine rNil ?_
            refine qSeq ?_
            refine wT rfl ?_
            refine wSeq ?_
            refine wRegion ?_
            (apply rlr (vs := [.int _ _, .int _ _, .bool _, .int _ _, .int _ _, .int _ _, .int _ _, .str _, _, _]) rfl rfl; (first | ((simp (disch := omega) only [↓app0, ↓appC, ↓updS, ↓updN, ↓hpS, ↓hpN]) <;> first | rfl | assumption) | assumption | rfl); rfl; rfl; (exact Nat.le_of_ble_eq_true rfl); rfl; rfl; rfl; rfl)
            (apply rst (u := .agg [.int _ _, .int _ _, .bool _, .int _ _, .int _ _, .int _ _, .int _ _, .str _, _, _]) rfl rfl rfl; (first | ((simp (disch := omega) only [↓app0, ↓appC, ↓updS, ↓updN, ↓hpS, ↓hpN]) <;> first | rfl | assumption) | assumption | rfl); rfl; rfl; rfl; rfl; rfl; (exact Nat.le_of_ble_eq_true rfl); rfl; rfl; rfl)
            refine raI rfl rfl rfl rfl rfl ?_
            refine rNil ?_
            refine qSeq ?_
            refine wRet ?_
            refine qBlockR ?_
            refine qSeqR ?_
            rcases hc with ⟨g1, g2⟩ | ⟨g1, g2, g3⟩ | ⟨g1, g2, g3, g4, g5, g6⟩
            · exact absurd ((fits_OK hn r).1 h1_2) g1
            · rcases g2 with g2 | g2 | g2
              · first | (rw [g2] at h3_1; cases h3_1; done) | contradiction
              · exact absurd g2 h3_8
              · exact absurd g2 h3_15
            · subst g6; exact finO (resL_cons (resV_row rfl (by (first | ((simp (disch := omega) only [↓app0, ↓appC, ↓updS, ↓updN, ↓hpS, ↓hpN]) <;> first | rfl | assumption) | assumption | rfl)) rfl rfl (Nat.le_of_ble_eq_true rfl) rfl) (resL_cons rfl resL_nil)) rfl (fun hz j b hj => by
                have : j < n := by
                  rcases Nat.lt_or_ge j n with h1 | h1
                  · exact h1
                  · rw [show app [] h j = h j from rfl, hz j h1] at hj; cases hj
                simp (disch := omega) only [↓app0, ↓appC, ↓updS, ↓updN]; exact hj) (Nat.le_refl _)
          · refine raB rfl rfl rfl rfl rfl ?_
            refine rNil ?_
            refine qSeq ?_
            refine wF rfl ?_
            refine wSkip ?_
            refine qBlock ?_
            refine qSeq ?_
            refine wSeq ?_
            rcases hc with ⟨g1, g2⟩ | ⟨g1, g2, g3⟩ | ⟨g1, g2, g3, g4, g5, g6⟩
            · exact absurd ((fits_OK hn r).1 h1_2) g1
            · rcases g2 with g2 | g2 | g2
              · first | (rw [g2] at h3_1; cases h3_1; done) | contradiction
              · exact absurd g2 h3_8
              · exact absurd g2 h3_15
            · exact (h5_3 (by omega)).elim
    · refine rnot (c := false) rfl rfl rfl rfl rfl ?_
      refine rmB rfl rfl rfl rfl rfl ?_
      refine rSkip rfl rfl rfl ?_
      refine rSkip rfl rfl rfl ?_
      refine rSkip rfl rfl rfl ?_
      refine rSkip rfl rfl rfl ?_
      refine rSkip rfl rfl rfl ?_
      refine rpk (e := true) rfl rfl rfl rfl rfl rfl ?_
      refine rmB rfl rfl rfl rfl rfl ?_
      refine rSkip rfl rfl rfl ?_
      refine rSkip rfl rfl rfl ?_
      refine rSkip rfl rfl rfl ?_
      refine rSkip rfl rfl rfl ?_
      refine rSkip rfl rfl rfl ?_
      refine rpk (e := true) rfl rfl rfl rfl rfl rfl ?_
      refine raB rfl rfl rfl rfl rfl ?_
      refine rNil ?_
      refine qSeq ?_
      refine wT rfl ?_
      refine wSeq ?_
      refine wRegion ?_
      (apply rlr (vs := [.int _ _, .int _ _, .bool _, .int _ _, .int _ _, .int _ _, .int _ _, .str _, _, _]) rfl rfl; (first | ((simp (disch := omega) only [↓app0, ↓appC, ↓updS, ↓updN, ↓hpS, ↓hpN]) <;> first | rfl | assumption) | assumption | rfl); rfl; rfl; (exact Nat.le_of_ble_eq_true rfl); rfl; rfl; rfl; rfl)
      (apply rst (u := .agg [.int _ _, .int _ _, .bool _, .int _ _, .int _ _, .int _ _, .int _ _, .str _, _, _]) rfl rfl rfl; (first | ((simp (disch := omega) only [↓app0, ↓appC, ↓updS, ↓updN, ↓hpS, ↓hpN]) <;> first | rfl | assumption) | assumption | rfl); rfl; rfl; rfl; rfl; rfl; (exact Nat.le_of_ble_eq_true rfl); rfl; rfl; rfl)
      refine raI rfl rfl rfl rfl rfl ?_
      refine rNil ?_
      refine qSeq ?_
      refine wRet ?_
      refine qBlockR ?_
      refine qSeqR ?_
      rcases hc with ⟨g1, g2⟩ | ⟨g1, g2, g3⟩ | ⟨g1, g2, g3, g4, g5, g6⟩
      · exact absurd ((fits_OK hn r).1 h1_2) g1
      · subst g3; exact finO (resL_cons (resV_row rfl (by (first | ((simp (disch := omega) only [↓app0, ↓appC, ↓updS, ↓updN, ↓hpS, ↓hpN]) <;> first | rfl | assumption) | assumption | rfl)) rfl rfl (Nat.le_of_ble_eq_true rfl) rfl) (resL_cons rfl resL_nil)) rfl (fun hz j b hj => by
          have : j < n := by
            rcases Nat.lt_or_ge j n with h1 | h1
            · exact h1
            · rw [show app [] h j = h j from rfl, hz j h1] at hj; cases hj
          simp (disch := omega) only [↓app0, ↓appC, ↓updS, ↓updN]; exact hj) (Nat.le_refl _)
      · first | exact absurd g3 h3_8 | exact absurd g4 h3_15 | (rw [g2] at h3_1; cases h3_1; done)
  · refine rnot (c := false) rfl rfl rfl rfl rfl ?_
    refine raB rfl rfl rfl rfl rfl ?_
    refine rNil ?_
    refine qSeq ?_
    refine wT rfl ?_
    refine wSeq ?_
    refine wRegion ?_
    (apply rlr (vs := [.int _ _, .int _ _, .bool _, .int _ _, .int _ _, .int _ _, .int _ _, .str _, _, _]) rfl rfl; (first | ((simp (disch := omega) only [↓app0, ↓appC, ↓updS, ↓updN, ↓hpS, ↓hpN]) <;> first | rfl | assumption) | assumption | rfl); rfl; rfl; (exact Nat.le_of_ble_eq_true rfl); rfl; rfl; rfl; rfl)
    (apply rst (u := .agg [.int _ _, .int _ _, .bool _, .int _ _, .int _ _, .int _ _, .int _ _, .str _, _, _]) rfl rfl rfl; (first | ((simp (disch := omega) only [↓app0, ↓appC, ↓updS, ↓updN, ↓hpS, ↓hpN]) <;> first | rfl | assumption) | assumption | rfl); rfl; rfl; rfl; rfl; rfl; (exact Nat.le_of_ble_eq_true rfl); rfl; rfl; rfl)
    refine raI rfl rfl rfl rfl rfl ?_
    refine rNil ?_
    refine qSeq ?_
    refine wRet ?_
    refine qBlockR ?_
    refine qSeqR ?_
    rcases hc with ⟨g1, g2⟩ | ⟨g1, _⟩ | ⟨g1, _⟩
    · subst g2; exact finO (resL_cons (resV_row rfl (by (first | ((simp (disch := omega) only [↓app0, ↓appC, ↓updS, ↓updN, ↓hpS, ↓hpN]) <;> first | rfl | assumption) | assumption | rfl)) rfl rfl (Nat.le_of_ble_eq_true rfl) rfl) (resL_cons rfl resL_nil)) rfl (fun hz j b hj => by
        have : j < n := by
          rcases Nat.lt_or_ge j n with h1 | h1
          · exact h1
          · rw [show app [] h j = h j from rfl, hz j h1] at hj; cases hj
        simp (disch := omega) only [↓app0, ↓appC, ↓updS, ↓updN]; exact hj) (Nat.le_refl _)
    · exact absurd ((fits_OK hn r).2 g1) h1_2
    · exact absurd ((fits_OK hn r).2 g1) h1_2
theorem s24u (n0 : Int) (c : Cl) (r : Rp) (n1 n2 : Bool) (hn : nodes n0) (hb : c.bz = true) (hr : r.OK n0 ∧ r.cl = c.id ∧ r.st = c.st) (hl : c.rps.length < 40) (hl2 : c.acc.length ≤ 1048576) (hd : dec n0 c.id c.st (c.rps ++ [r]) = none) {h : Heap} {n : Nat} :
    V.Open En 24 [.int .i64 n0, .agg (c.V (.sl false n1 (c.rps.map Rp.T)) (.sl false n2 (c.acc.map An.T))), .agg r.V] h n (.tup [.agg (c.V (.view (n + 6) 0 (c.rps.length + 1)) (.sl false n2 (c.acc.map An.T))), .int .i64 0]) [(n + 6, some ⟨(c.rps ++ [r]).map Rp.V, 8, 44⟩)] (n + 8) := by
  have hp := s54 n0 c.id c.st true (c.rps ++ [r]) hn (by rw [List.length_append]; simp; omega)
  have hfr := (fits_OK hn r).2 hr.1
  have hl0 : (c.rps.map Rp.T).length = c.rps.length := List.length_map ..
  rw [hd] at hp
  obtain ⟨ci, cs, cb, cr, rps, acc⟩ := c
  dsimp only at hb
  subst hb
  unfold Cl.V
  dsimp only [Option.getD_some, Option.getD_none, Option.isSome] at hr hl hl2 hp hl0 ⊢
  have eR : List.drop 0 (List.drop 0 [] ++ (rps.map Rp.T).map (fun x => x.map (T.toV false))) ++ [r.V] = (rps ++ [r]).map Rp.V := by
    rw [rowsRpV, List.map_append]; rfl
  have eK : 0 + ((rps.map Rp.T).map fun x => x.map (T.toV false)).length + 1 = rps.length + 1 := by rw [List.length_map, List.length_map, Nat.zero_add]
  refine V.Open.of_wp Tryd.func24 rfl (Nat.le_of_ble_eq_true rfl) ?_
  refine wSeq ?_
  refine wRegion ?_
  refine rbx (u := .agg [.int _ _, .int _ _, .bool _, .int _ _, .int _ _, .int _ _, .int _ _, .str _, _, _]) rfl rfl rfl rfl rfl rfl rfl ?_
  refine rbx (u := .agg [.int _ _, .int _ _, .int _ _, .int _ _, .int _ _, .int _ _, .int _ _, .str _]) rfl rfl rfl rfl rfl rfl rfl ?_
  refine ral rfl rfl rfl rfl rfl rfl ?_
  refine raI rfl rfl rfl rfl rfl ?_
  refine rNil ?_
  refine qSeq ?_
  refine wSeq ?_
  refine wBlock ?_
  refine wSeq ?_
  refine wRegion ?_
  refine rmI rfl rfl rfl rfl rfl ?_
  (apply rlr (vs := [.int _ _, .int _ _, .int _ _, .int _ _, .int _ _, .int _ _, .int _ _, .str _]) rfl rfl; (first | ((simp (disch := omega) only [↓app0, ↓appC, ↓updS, ↓updN, ↓hpS, ↓hpN]) <;> first | rfl | assumption) | assumption | rfl); rfl; rfl; (exact Nat.le_of_ble_eq_true rfl); rfl; rfl; rfl; rfl)
  refine rclP (s53 n0 r) rfl rfl rfl rfl rfl rfl ?_ ?_ <;> intro h1_2
  · refine rnot (c := true) rfl rfl rfl rfl rfl ?_
    refine raB rfl rfl rfl rfl rfl ?_
    refine rNil ?_
    refine qSeq ?_
    refine wF rfl ?_
    refine wSeq ?_
    refine wRegion ?_
    refine rfa (off := 2) (s := 1) (r := false) rfl rfl rfl (Nat.succ_ne_zero _) rfl rfl rfl ?_
    (apply rlc (v := .bool true) rfl rfl; (first | ((simp (disch := omega) only [↓app0, ↓appC, ↓updS, ↓updN, ↓hpS, ↓hpN]) <;> first | rfl | assumption) | assumption | rfl); rfl; rfl; rfl; rfl; rfl; rfl)
    refine rnot (c := true) rfl rfl rfl rfl rfl ?_
    refine rmB rfl rfl rfl rfl rfl ?_
    refine rfa (off := 1) (s := 1) (r := false) rfl rfl rfl (Nat.succ_ne_zero _) rfl rfl rfl ?_
    (apply rlc (v := .int _ _) rfl rfl; (first | ((simp (disch := omega) only [↓app0, ↓appC, ↓updS, ↓updN, ↓hpS, ↓hpN]) <;> first | rfl | assumption) | assumption | rfl); rfl; rfl; rfl; rfl; rfl; rfl)
    refine rfa (off := 0) (s := 1) (r := false) rfl rfl rfl (Nat.succ_ne_zero _) rfl rfl rfl ?_
    (apply rlc (v := .int _ _) rfl rfl; (first | ((simp (disch := omega) only [↓app0, ↓appC, ↓updS, ↓updN, ↓hpS, ↓hpN]) <;> first | rfl | assumption) | assumption | rfl); rfl; rfl; rfl; rfl; rfl; rfl)
    refine rne rfl rfl rfl rfl rfl rfl ?_ ?_ <;> intro h3_8
    · refine rpk (e := true) rfl rfl rfl rfl rfl rfl ?_
      refine rmB rfl rfl rfl rfl rfl ?_
      refine rSkip rfl rfl rfl ?_
      refine rSkip rfl rfl rfl ?_
      refine rSkip rfl rfl rfl ?_
      refine rSkip rfl rfl rfl ?_
      refine rSkip rfl rfl rfl ?_
      refine rpk (e := true) rfl rfl rfl rfl rfl rfl ?_
      refine raB rfl rfl rfl rfl rfl ?_
      refine rNil ?_
      refine qSeq ?_
      refine wT rfl ?_
      refine wSeq ?_
      first | exact absurd hr.2.1 h3_8 | exact absurd hr.2.2 h3_15
    · refine rpk (e := false) rfl rfl rfl rfl rfl rfl ?_
      refine rmB rfl rfl rfl rfl rfl ?_
      refine rfa (off := 2) (s := 1) (r := false) rfl rfl rfl (Nat.succ_ne_zero _) rfl rfl rfl ?_
      (apply rlc (v := .int _ _) rfl rfl; (first | ((simp (disch := omega) only [↓app0, ↓appC, ↓updS, ↓updN, ↓hpS, ↓hpN]) <;> first | rfl | assumption) | assumption | rfl); rfl; rfl; rfl; rfl; rfl; rfl)
      refine rfa (off := 1) (s := 1) (r := false) rfl rfl rfl (Nat.succ_ne_zero _) rfl rfl rfl ?_
      (apply rlc (v := .int _ _) rfl rfl; (first | ((simp (disch := omega) only [↓app0, ↓appC, ↓updS, ↓updN, ↓hpS, ↓hpN]) <;> first | rfl | assumption) | assumption | rfl); rfl; rfl; rfl; rfl; rfl; rfl)
      refine rne rfl rfl rfl rfl rfl rfl ?_ ?_ <;> intro h3_15
      · refine rpk (e := true) rfl rfl rfl rfl rfl rfl ?_
        refine raB rfl rfl rfl rfl rfl ?_
        refine rNil ?_
        refine qSeq ?_
        refine wT rfl ?_
        refine wSeq ?_
        first | exact absurd hr.2.1 h3_8 | exact absurd hr.2.2 h3_15
      · refine rpk (e := false) rfl rfl rfl rfl rfl rfl ?_
        refine raB rfl rfl rfl rfl rfl ?_
        refine rNil ?_
        refine qSeq ?_
        refine wF rfl ?_
        refine wSeq ?_
        refine wRegion ?_
        refine rfa (off := 8) (s := 1) (r := false) rfl rfl rfl (Nat.succ_ne_zero _) rfl rfl rfl ?_
        (apply rlc (v := .sl _ _ _) rfl rfl; (first | ((simp (disch := omega) only [↓app0, ↓appC, ↓updS, ↓updN, ↓hpS, ↓hpN]) <;> first | rfl | assumption) | assumption | rfl); rfl; rfl; rfl; rfl; rfl; rfl)
        refine rll rfl rfl rfl rfl rfl rfl ?_
        refine req rfl rfl rfl rfl rfl rfl ?_ ?_ <;> intro h5_3
        · refine raB rfl rfl rfl rfl rfl ?_
          refine rNil ?_
          refine qSeq ?_
          refine wT rfl ?_
          refine wSeq ?_
          exact absurd h5_3 (by omega)
        · refine raB rfl rfl rfl rfl rfl ?_
          refine rNil ?_
          refine qSeq ?_
          refine wF rfl ?_
          refine wSkip ?_
          refine qBlock ?_
          refine qSeq ?_
          refine wSeq ?_
          refine wDraw [0, 0, 2, 7, 0, 16, 63, 127, 255] rfl (by decide +kernel) ?_
          refine dbs (es := []) rfl rfl rfl rfl (Nat.succ_ne_zero _) (Nat.le_of_ble_eq_true rfl) rfl rfl rfl rfl rfl ?_
          refine dfa (off := 8) (s := 1) (r := false) rfl rfl rfl (Nat.succ_ne_zero _) rfl rfl rfl ?_
          (apply dlc (v := .sl _ _ _) rfl rfl; (first | ((simp (disch := omega) only [↓app0, ↓appC, ↓updS, ↓updN, ↓hpS, ↓hpN]) <;> first | rfl | assumption) | assumption | rfl); rfl; rfl; rfl; rfl; rfl; rfl)
          (apply dap (s' := 72) rfl rfl; (first | ((simp (disch := omega) only [↓app0, ↓appC, ↓updS, ↓updN, ↓hpS, ↓hpN]) <;> first | rfl | assumption) | assumption | rfl); rfl; rfl; (first | rfl | (focus (simp only [List.length_append, List.length_drop, List.length_map, List.length_cons, List.length_nil, Nat.sub_zero, Nat.zero_add]; done)) | (focus (simp only [List.length_append, List.length_drop, List.length_map, List.length_cons, List.length_nil, Nat.sub_zero, Nat.zero_add]; omega))); rfl; rfl; exact (Nat.succ_ne_zero _); rfl; exact (lenRpF false rps); (first | exact Nat.le_of_ble_eq_true rfl | (focus (simp only [List.length_append, List.length_drop, List.length_map, List.length_cons, List.length_nil, Nat.sub_zero, Nat.zero_add]; omega)) | omega); (first | exact Nat.le_of_ble_eq_true rfl | (focus (simp only [List.length_append, List.length_drop, List.length_map, List.length_cons, List.length_nil, Nat.sub_zero, Nat.zero_add]; omega)) | omega); rfl; rfl; rfl)
          (apply dlr (vs := [.int _ _, .int _ _, .int _ _, .int _ _, .int _ _, .int _ _, .int _ _, .str _]) rfl rfl; (first | ((simp (disch := omega) only [↓app0, ↓appC, ↓updS, ↓updN, ↓hpS, ↓hpN]) <;> first | rfl | assumption) | assumption | rfl); rfl; rfl; (exact Nat.le_of_ble_eq_true rfl); rfl; rfl; rfl; rfl)
          refine dbs (es := [[.int _ _, .int _ _, .int _ _, .int _ _, .int _ _, .int _ _, .int _ _, .str _]]) rfl rfl rfl rfl (Nat.succ_ne_zero _) (Nat.le_of_ble_eq_true rfl) rfl rfl rfl rfl rfl ?_
          (apply dap (s' := 72) (es := [[.int _ _, .int _ _, .int _ _, .int _ _, .int _ _, .int _ _, .int _ _, .str _]]) rfl rfl; (first | ((simp (disch := omega) only [↓app0, ↓appC, ↓updS, ↓updN, ↓hpS, ↓hpN]) <;> first | rfl | assumption) | assumption | rfl); rfl; rfl; (first | rfl | (focus (simp only [List.length_append, List.length_drop, List.length_map, List.length_cons, List.length_nil, Nat.sub_zero, Nat.zero_add]; done)) | (focus (simp only [List.length_append, List.length_drop, List.length_map, List.length_cons, List.length_nil, Nat.sub_zero, Nat.zero_add]; omega))); rfl; rfl; exact (Nat.succ_ne_zero _); (first | rfl | (apply srcView rfl; (first | ((simp (disch := omega) only [↓app0, ↓appC, ↓updS, ↓updN, ↓hpS, ↓hpN]) <;> first | rfl | assumption) | assumption | rfl); (first | exact Nat.le_refl _ | omega); rfl)); (first | rfl | assumption | (focus (simp; done)) | (focus (intro _ hc; rw [List.mem_singleton] at hc; subst hc; rfl)) | (intro _ _; simp_all)); (first | omega | (focus (simp only [List.length_cons, List.length_nil]; omega)) | exact Nat.le_of_ble_eq_true rfl | (focus (simp only [List.length_append, List.length_drop, List.length_map, List.length_cons, List.length_nil, Nat.sub_zero, Nat.zero_add]; omega))); (first | omega | (focus (simp only [List.length_cons, List.length_nil]; omega)) | exact Nat.le_of_ble_eq_true rfl | (focus (simp only [List.length_append, List.length_drop, List.length_map, List.length_cons, List.length_nil, Nat.sub_zero, Nat.zero_add]; omega))); rfl; rfl; rfl)
          refine dfa (off := 8) (s := 1) (r := false) rfl rfl rfl (Nat.succ_ne_zero _) rfl rfl rfl ?_
          (apply dst (u := .view _ _ _) rfl rfl rfl; (first | ((simp (disch := omega) only [↓app0, ↓appC, ↓updS, ↓updN, ↓hpS, ↓hpN]) <;> first | rfl | assumption) | assumption | rfl); rfl; rfl; rfl; rfl; rfl; (exact Nat.le_of_ble_eq_true rfl); rfl; rfl; rfl)
          refine dNilR 9 [3, 0, 3, 3, 1, 3, 1, 0, 3] [(0, 2), (0, 4), (3, 4), (0, 5), (2, 5), (3, 5)] rfl rfl (by decide +kernel) ?_ ?_
          · (simp [ClearL, ids, srcIds, Env.eval, upd, retV, A.toV, T.toV]; try omega)
          refine qSeq ?_
          refine wSeq ?_
          refine wRegion ?_
          refine rmI rfl rfl rfl rfl rfl ?_
          refine rfa (off := 0) (s := 1) (r := false) rfl rfl rfl (Nat.succ_ne_zero _) rfl rfl rfl ?_
          (apply rlc (v := .int _ _) rfl rfl; (first | ((simp (disch := omega) only [↓app0, ↓appC, ↓updS, ↓updN, ↓hpS, ↓hpN]) <;> first | rfl | assumption) | assumption | rfl); rfl; rfl; rfl; rfl; rfl; rfl)
          refine rfa (off := 1) (s := 1) (r := false) rfl rfl rfl (Nat.succ_ne_zero _) rfl rfl rfl ?_
          (apply rlc (v := .int _ _) rfl rfl; (first | ((simp (disch := omega) only [↓app0, ↓appC, ↓updS, ↓updN, ↓hpS, ↓hpN]) <;> first | rfl | assumption) | assumption | rfl); rfl; rfl; rfl; rfl; rfl; rfl)
          refine rfa (off := 8) (s := 1) (r := false) rfl rfl rfl (Nat.succ_ne_zero _) rfl rfl rfl ?_
          (apply rlc (v := .view _ _ _) rfl rfl; (first | ((simp (disch := omega) only [↓app0, ↓appC, ↓updS, ↓updN, ↓hpS, ↓hpN]) <;> first | rfl | assumption) | assumption | rfl); rfl; rfl; rfl; rfl; rfl; rfl)
          apply rclS [n + 6] hp rfl rfl rfl
          · exact SnapL.cons _ _ _ _ (.one _ _ (.int _ _)) (SnapL.cons _ _ _ _ (.one _ _ (.int _ _)) (SnapL.cons _ _ _ _ (.one _ _ (.int _ _)) (SnapL.cons _ _ _ _ (.one _ _ (snapVR (L := rps ++ [r]) (List.mem_singleton.2 rfl) (by (simp (disch := omega) only [↓app0, ↓appC, ↓updS, ↓updN]) <;> exact congrArg (fun z => some (Blk.mk z 8 44)) eR) (by simp))) SnapL.nil)))
          · rfl
          · rfl
          · rfl
          refine rmT rfl rfl rfl rfl rfl ?_
          refine rex rfl rfl rfl rfl rfl rfl ?_
          refine rex rfl rfl rfl rfl rfl rfl ?_
          refine ral rfl rfl rfl rfl rfl rfl ?_
          (apply rst (u := .agg [.int _ _, .int _ _, .int _ _, .int _ _]) rfl rfl rfl; (first | ((simp (disch := omega) only [↓app0, ↓appC, ↓updS, ↓updN, ↓hpS, ↓hpN]) <;> first | rfl | assumption) | assumption | rfl); rfl; rfl; rfl; rfl; rfl; (exact Nat.le_of_ble_eq_true rfl); rfl; rfl; rfl)
          refine raB rfl rfl rfl rfl rfl ?_
          refine rNil ?_
          refine qSeq ?_
          refine wSeq ?_
          refine wSeq ?_
          refine wRegion ?_
          refine rmB rfl rfl rfl rfl rfl ?_
          refine rnot (c := false) rfl rfl rfl rfl rfl ?_
          refine rNil ?_
          refine qSeq ?_
          refine wT rfl ?_
          refine wSeq ?_
          refine wRegion ?_
          (apply rlr (vs := [.int _ _, .int _ _, .bool _, .int _ _, .int _ _, .int _ _, .int _ _, .str _, _, _]) rfl rfl; (first | ((simp (disch := omega) only [↓app0, ↓appC, ↓updS, ↓updN, ↓hpS, ↓hpN]) <;> first | rfl | assumption) | assumption | rfl); rfl; rfl; (exact Nat.le_of_ble_eq_true rfl); rfl; rfl; rfl; rfl)
          (apply rst (u := .agg [.int _ _, .int _ _, .bool _, .int _ _, .int _ _, .int _ _, .int _ _, .str _, _, _]) rfl rfl rfl; (first | ((simp (disch := omega) only [↓app0, ↓appC, ↓updS, ↓updN, ↓hpS, ↓hpN]) <;> first | rfl | assumption) | assumption | rfl); rfl; rfl; rfl; rfl; rfl; (exact Nat.le_of_ble_eq_true rfl); rfl; rfl; rfl)
          refine raI rfl rfl rfl rfl rfl ?_
          refine rNil ?_
          refine qSeq ?_
          refine wRet ?_
          refine qSeqR ?_
          refine finO (resL_cons (resV_row rfl (by (first | ((simp (disch := omega) only [↓app0, ↓appC, ↓updS, ↓updN, ↓hpS, ↓hpN]) <;> first | rfl | assumption) | assumption | rfl)) rfl rfl (Nat.le_of_ble_eq_true rfl) rfl) (resL_cons rfl resL_nil)) ?_ ?_ (Nat.le_refl _)
          · exact (congrArg (fun k => V.tup [.agg [.int .i64 ci, .int .i64 cs, .bool true, .int .i64 cr.cl, .int .i64 cr.st, .int .i64 cr.kd, .int .i64 cr.le, .str cr.nm, .view (n + 6) 0 k, .sl false n2 (acc.map An.T)], .int .i64 0]) eK)
          · exact (leWr (by
            intro j hj
            simp only [List.map_cons, List.map_nil, List.mem_cons, List.not_mem_nil, or_false] at hj
            rcases hj with rfl <;> (simp (disch := omega) only [↓app0, ↓appC, ↓updS, ↓updN]) <;> first | rfl | (exact congrArg (fun z => some (Blk.mk z 8 44)) eR)) (fun j hj hn => by
            simp only [List.map_cons, List.map_nil, List.mem_cons, List.not_mem_nil, or_false, not_or] at hn
            simp (disch := omega) only [↓app0, ↓appC, ↓updS, ↓updN]))
  · refine rnot (c := false) rfl rfl rfl rfl rfl ?_
    refine raB rfl rfl rfl rfl rfl ?_
    refine rNil ?_
    refine qSeq ?_
    refine wT rfl ?_
    refine wSeq ?_
    exact absurd hfr h1_2
theorem s24d (n0 : Int) (c : Cl) (r : Rp) (n1 n2 : Bool) (hn : nodes n0) (hb : c.bz = true) (hr : r.OK n0 ∧ r.cl = c.id ∧ r.st = c.st) (hl : c.rps.length < 40) (hl2 : c.acc.length ≤ 1048576) {a : An} (hd : dec n0 c.id c.st (c.rps ++ [r]) = some a) {h : Heap} {n : Nat} :
    V.Open En 24 [.int .i64 n0, .agg (c.V (.sl false n1 (c.rps.map Rp.T)) (.sl false n2 (c.acc.map An.T))), .agg r.V] h n (.tup [.agg ((Cl.mk c.id c.st false Rq0 [] []).V (.view (n + 12) 0 0) (.view (n + 11) 0 (c.acc.length + 1))), .int .i64 0]) [(n + 11, some ⟨(c.acc ++ [a]).map An.V, 4, 42⟩), (n + 12, some ⟨[], 8, 44⟩)] (n + 13) := by
  have hp := s54 n0 c.id c.st true (c.rps ++ [r]) hn (by rw [List.length_append]; simp; omega)
  have hfr := (fits_OK hn r).2 hr.1
  have hl0 : (c.rps.map Rp.T).length = c.rps.length := List.length_map ..
  rw [hd] at hp
  obtain ⟨ci, cs, cb, cr, rps, acc⟩ := c
  dsimp only at hb
  subst hb
  unfold Cl.V
  dsimp only [Option.getD_some, Option.getD_none, Option.isSome] at hr hl hl2 hp hl0 ⊢
  have eR : List.drop 0 (List.drop 0 [] ++ (rps.map Rp.T).map (fun x => x.map (T.toV false))) ++ [r.V] = (rps ++ [r]).map Rp.V := by
    rw [rowsRpV, List.map_append]; rfl
  have eA : List.drop 0 (List.drop 0 [] ++ (acc.map An.T).map (fun x => x.map (T.toV false))) ++ [a.V] = (acc ++ [a]).map An.V := by
    rw [rowsAnV, List.map_append]; rfl
  have eK : 0 + ((acc.map An.T).map fun x => x.map (T.toV false)).length + 1 = acc.length + 1 := by rw [List.length_map, List.length_map, Nat.zero_add]
  refine V.Open.of_wp Tryd.func24 rfl (Nat.le_of_ble_eq_true rfl) ?_
  refine wSeq ?_
  refine wRegion ?_
  refine rbx (u := .agg [.int _ _, .int _ _, .bool _, .int _ _, .int _ _, .int _ _, .int _ _, .str _, _, _]) rfl rfl rfl rfl rfl rfl rfl ?_
  refine rbx (u := .agg [.int _ _, .int _ _, .int _ _, .int _ _, .int _ _, .int _ _, .int _ _, .str _]) rfl rfl rfl rfl rfl rfl rfl ?_
  refine ral rfl rfl rfl rfl rfl rfl ?_
  refine raI rfl rfl rfl rfl rfl ?_
  refine rNil ?_
  refine qSeq ?_
  refine wSeq ?_
  refine wBlock ?_
  refine wSeq ?_
  refine wRegion ?_
  refine rmI rfl rfl rfl rfl rfl ?_
  (apply rlr (vs := [.int _ _, .int _ _, .int _ _, .int _ _, .int _ _, .int _ _, .int _ _, .str _]) rfl rfl; (first | ((simp (disch := omega) only [↓app0, ↓appC, ↓updS, ↓updN, ↓hpS, ↓hpN]) <;> first | rfl | assumption) | assumption | rfl); rfl; rfl; (exact Nat.le_of_ble_eq_true rfl); rfl; rfl; rfl; rfl)
  refine rclP (s53 n0 r) rfl rfl rfl rfl rfl rfl ?_ ?_ <;> intro h1_2
  · refine rnot (c := true) rfl rfl rfl rfl rfl ?_
    refine raB rfl rfl rfl rfl rfl ?_
    refine rNil ?_
    refine qSeq ?_
    refine wF rfl ?_
    refine wSeq ?_
    refine wRegion ?_
    refine rfa (off := 2) (s := 1) (r := false) rfl rfl rfl (Nat.succ_ne_zero _) rfl rfl rfl ?_
    (apply rlc (v := .bool true) rfl rfl; (first | ((simp (disch := omega) only [↓app0, ↓appC, ↓updS, ↓updN, ↓hpS, ↓hpN]) <;> first | rfl | assumption) | assumption | rfl); rfl; rfl; rfl; rfl; rfl; rfl)
    refine rnot (c := true) rfl rfl rfl rfl rfl ?_
    refine rmB rfl rfl rfl rfl rfl ?_
    refine rfa (off := 1) (s := 1) (r := false) rfl rfl rfl (Nat.succ_ne_zero _) rfl rfl rfl ?_
    (apply rlc (v := .int _ _) rfl rfl; (first | ((simp (disch := omega) only [↓app0, ↓appC, ↓updS, ↓updN, ↓hpS, ↓hpN]) <;> first | rfl | assumption) | assumption | rfl); rfl; rfl; rfl; rfl; rfl; rfl)
    refine rfa (off := 0) (s := 1) (r := false) rfl rfl rfl (Nat.succ_ne_zero _) rfl rfl rfl ?_
    (apply rlc (v := .int _ _) rfl rfl; (first | ((simp (disch := omega) only [↓app0, ↓appC, ↓updS, ↓updN, ↓hpS, ↓hpN]) <;> first | rfl | assumption) | assumption | rfl); rfl; rfl; rfl; rfl; rfl; rfl)
    refine rne rfl rfl rfl rfl rfl rfl ?_ ?_ <;> intro h3_8
    · refine rpk (e := true) rfl rfl rfl rfl rfl rfl ?_
      refine rmB rfl rfl rfl rfl rfl ?_
      refine rSkip rfl rfl rfl ?_
      refine rSkip rfl rfl rfl ?_
      refine rSkip rfl rfl rfl ?_
      refine rSkip rfl rfl rfl ?_
      refine rSkip rfl rfl rfl ?_
      refine rpk (e := true) rfl rfl rfl rfl rfl rfl ?_
      refine raB rfl rfl rfl rfl rfl ?_
      refine rNil ?_
      refine qSeq ?_
      refine wT rfl ?_
      refine wSeq ?_
      first | exact absurd hr.2.1 h3_8 | exact absurd hr.2.2 h3_15
    · refine rpk (e := false) rfl rfl rfl rfl rfl rfl ?_
      refine rmB rfl rfl rfl rfl rfl ?_
      refine rfa (off := 2) (s := 1) (r := false) rfl rfl rfl (Nat.succ_ne_zero _) rfl rfl rfl ?_
      (apply rlc (v := .int _ _) rfl rfl; (first | ((simp (disch := omega) only [↓app0, ↓appC, ↓updS, ↓updN, ↓hpS, ↓hpN]) <;> first | rfl | assumption) | assumption | rfl); rfl; rfl; rfl; rfl; rfl; rfl)
      refine rfa (off := 1) (s := 1) (r := false) rfl rfl rfl (Nat.succ_ne_zero _) rfl rfl rfl ?_
      (apply rlc (v := .int _ _) rfl rfl; (first | ((simp (disch := omega) only [↓app0, ↓appC, ↓updS, ↓updN, ↓hpS, ↓hpN]) <;> first | rfl | assumption) | assumption | rfl); rfl; rfl; rfl; rfl; rfl; rfl)
      refine rne rfl rfl rfl rfl rfl rfl ?_ ?_ <;> intro h3_15
      · refine rpk (e := true) rfl rfl rfl rfl rfl rfl ?_
        refine raB rfl rfl rfl rfl rfl ?_
        refine rNil ?_
        refine qSeq ?_
        refine wT rfl ?_
        refine wSeq ?_
        first | exact absurd hr.2.1 h3_8 | exact absurd hr.2.2 h3_15
      · refine rpk (e := false) rfl rfl rfl rfl rfl rfl ?_
        refine raB rfl rfl rfl rfl rfl ?_
        refine rNil ?_
        refine qSeq ?_
        refine wF rfl ?_
        refine wSeq ?_
        refine wRegion ?_
        refine rfa (off := 8) (s := 1) (r := false) rfl rfl rfl (Nat.succ_ne_zero _) rfl rfl rfl ?_
        (apply rlc (v := .sl _ _ _) rfl rfl; (first | ((simp (disch := omega) only [↓app0, ↓appC, ↓updS, ↓updN, ↓hpS, ↓hpN]) <;> first | rfl | assumption) | assumption | rfl); rfl; rfl; rfl; rfl; rfl; rfl)
        refine rll rfl rfl rfl rfl rfl rfl ?_
        refine req rfl rfl rfl rfl rfl rfl ?_ ?_ <;> intro h5_3
        · refine raB rfl rfl rfl rfl rfl ?_
          refine rNil ?_
          refine qSeq ?_
          refine wT rfl ?_
          refine wSeq ?_
          exact absurd h5_3 (by omega)
        · refine raB rfl rfl rfl rfl rfl ?_
          refine rNil ?_
          refine qSeq ?_
          refine wF rfl ?_
          refine wSkip ?_
          refine qBlock ?_
          refine qSeq ?_
          refine wSeq ?_
          refine wDraw [0, 0, 2, 7, 0, 16, 63, 127, 255] rfl (by decide +kernel) ?_
          refine dbs (es := []) rfl rfl rfl rfl (Nat.succ_ne_zero _) (Nat.le_of_ble_eq_true rfl) rfl rfl rfl rfl rfl ?_
          refine dfa (off := 8) (s := 1) (r := false) rfl rfl rfl (Nat.succ_ne_zero _) rfl rfl rfl ?_
          (apply dlc (v := .sl _ _ _) rfl rfl; (first | ((simp (disch := omega) only [↓app0, ↓appC, ↓updS, ↓updN, ↓hpS, ↓hpN]) <;> first | rfl | assumption) | assumption | rfl); rfl; rfl; rfl; rfl; rfl; rfl)
          (apply dap (s' := 72) rfl rfl; (first | ((simp (disch := omega) only [↓app0, ↓appC, ↓updS, ↓updN, ↓hpS, ↓hpN]) <;> first | rfl | assumption) | assumption | rfl); rfl; rfl; (first | rfl | (focus (simp only [List.length_append, List.length_drop, List.length_map, List.length_cons, List.length_nil, Nat.sub_zero, Nat.zero_add]; done)) | (focus (simp only [List.length_append, List.length_drop, List.length_map, List.length_cons, List.length_nil, Nat.sub_zero, Nat.zero_add]; omega))); rfl; rfl; exact (Nat.succ_ne_zero _); rfl; exact (lenRpF false rps); (first | exact Nat.le_of_ble_eq_true rfl | (focus (simp only [List.length_append, List.length_drop, List.length_map, List.length_cons, List.length_nil, Nat.sub_zero, Nat.zero_add]; omega)) | omega); (first | exact Nat.le_of_ble_eq_true rfl | (focus (simp only [List.length_append, List.length_drop, List.length_map, List.length_cons, List.length_nil, Nat.sub_zero, Nat.zero_add]; omega)) | omega); rfl; rfl; rfl)
          (apply dlr (vs := [.int _ _, .int _ _, .int _ _, .int _ _, .int _ _, .int _ _, .int _ _, .str _]) rfl rfl; (first | ((simp (disch := omega) only [↓app0, ↓appC, ↓updS, ↓updN, ↓hpS, ↓hpN]) <;> first | rfl | assumption) | assumption | rfl); rfl; rfl; (exact Nat.le_of_ble_eq_true rfl); rfl; rfl; rfl; rfl)
          refine dbs (es := [[.int _ _, .int _ _, .int _ _, .int _ _, .int _ _, .int _ _, .int _ _, .str _]]) rfl rfl rfl rfl (Nat.succ_ne_zero _) (Nat.le_of_ble_eq_true rfl) rfl rfl rfl rfl rfl ?_
          (apply dap (s' := 72) (es := [[.int _ _, .int _ _, .int _ _, .int _ _, .int _ _, .int _ _, .int _ _, .str _]]) rfl rfl; (first | ((simp (disch := omega) only [↓app0, ↓appC, ↓updS, ↓updN, ↓hpS, ↓hpN]) <;> first | rfl | assumption) | assumption | rfl); rfl; rfl; (first | rfl | (focus (simp only [List.length_append, List.length_drop, List.length_map, List.length_cons, List.length_nil, Nat.sub_zero, Nat.zero_add]; done)) | (focus (simp only [List.length_append, List.length_drop, List.length_map, List.length_cons, List.length_nil, Nat.sub_zero, Nat.zero_add]; omega))); rfl; rfl; exact (Nat.succ_ne_zero _); (first | rfl | (apply srcView rfl; (first | ((simp (disch := omega) only [↓app0, ↓appC, ↓updS, ↓updN, ↓hpS, ↓hpN]) <;> first | rfl | assumption) | assumption | rfl); (first | exact Nat.le_refl _ | omega); rfl)); (first | rfl | assumption | (focus (simp; done)) | (focus (intro _ hc; rw [List.mem_singleton] at hc; subst hc; rfl)) | (intro _ _; simp_all)); (first | omega | (focus (simp only [List.length_cons, List.length_nil]; omega)) | exact Nat.le_of_ble_eq_true rfl | (focus (simp only [List.length_append, List.length_drop, List.length_map, List.length_cons, List.length_nil, Nat.sub_zero, Nat.zero_add]; omega))); (first | omega | (focus (simp only [List.length_cons, List.length_nil]; omega)) | exact Nat.le_of_ble_eq_true rfl | (focus (simp only [List.length_append, List.length_drop, List.length_map, List.length_cons, List.length_nil, Nat.sub_zero, Nat.zero_add]; omega))); rfl; rfl; rfl)
          refine dfa (off := 8) (s := 1) (r := false) rfl rfl rfl (Nat.succ_ne_zero _) rfl rfl rfl ?_
          (apply dst (u := .view _ _ _) rfl rfl rfl; (first | ((simp (disch := omega) only [↓app0, ↓appC, ↓updS, ↓updN, ↓hpS, ↓hpN]) <;> first | rfl | assumption) | assumption | rfl); rfl; rfl; rfl; rfl; rfl; (exact Nat.le_of_ble_eq_true rfl); rfl; rfl; rfl)
          refine dNilR 9 [3, 0, 3, 3, 1, 3, 1, 0, 3] [(0, 2), (0, 4), (3, 4), (0, 5), (2, 5), (3, 5)] rfl rfl (by decide +kernel) ?_ ?_
          · (simp [ClearL, ids, srcIds, Env.eval, upd, retV, A.toV, T.toV]; try omega)
          refine qSeq ?_
          refine wSeq ?_
          refine wRegion ?_
          refine rmI rfl rfl rfl rfl rfl ?_
          refine rfa (off := 0) (s := 1) (r := false) rfl rfl rfl (Nat.succ_ne_zero _) rfl rfl rfl ?_
          (apply rlc (v := .int _ _) rfl rfl; (first | ((simp (disch := omega) only [↓app0, ↓appC, ↓updS, ↓updN, ↓hpS, ↓hpN]) <;> first | rfl | assumption) | assumption | rfl); rfl; rfl; rfl; rfl; rfl; rfl)
          refine rfa (off := 1) (s := 1) (r := false) rfl rfl rfl (Nat.succ_ne_zero _) rfl rfl rfl ?_
          (apply rlc (v := .int _ _) rfl rfl; (first | ((simp (disch := omega) only [↓app0, ↓appC, ↓updS, ↓updN, ↓hpS, ↓hpN]) <;> first | rfl | assumption) | assumption | rfl); rfl; rfl; rfl; rfl; rfl; rfl)
          refine rfa (off := 8) (s := 1) (r := false) rfl rfl rfl (Nat.succ_ne_zero _) rfl rfl rfl ?_
          (apply rlc (v := .view _ _ _) rfl rfl; (first | ((simp (disch := omega) only [↓app0, ↓appC, ↓updS, ↓updN, ↓hpS, ↓hpN]) <;> first | rfl | assumption) | assumption | rfl); rfl; rfl; rfl; rfl; rfl; rfl)
          apply rclS [n + 6] hp rfl rfl rfl
          · exact SnapL.cons _ _ _ _ (.one _ _ (.int _ _)) (SnapL.cons _ _ _ _ (.one _ _ (.int _ _)) (SnapL.cons _ _ _ _ (.one _ _ (.int _ _)) (SnapL.cons _ _ _ _ (.one _ _ (snapVR (L := rps ++ [r]) (List.mem_singleton.2 rfl) (by (simp (disch := omega) only [↓app0, ↓appC, ↓updS, ↓updN]) <;> exact congrArg (fun z => some (Blk.mk z 8 44)) eR) (by simp))) SnapL.nil)))
          · rfl
          · rfl
          · rfl
          refine rmT rfl rfl rfl rfl rfl ?_
          refine rex rfl rfl rfl rfl rfl rfl ?_
          refine rex rfl rfl rfl rfl rfl rfl ?_
          refine ral rfl rfl rfl rfl rfl rfl ?_
          (apply rst (u := .agg [.int _ _, .int _ _, .int _ _, .int _ _]) rfl rfl rfl; (first | ((simp (disch := omega) only [↓app0, ↓appC, ↓updS, ↓updN, ↓hpS, ↓hpN]) <;> first | rfl | assumption) | assumption | rfl); rfl; rfl; rfl; rfl; rfl; (exact Nat.le_of_ble_eq_true rfl); rfl; rfl; rfl)
          refine raB rfl rfl rfl rfl rfl ?_
          refine rNil ?_
          refine qSeq ?_
          refine wSeq ?_
          refine wSeq ?_
          refine wRegion ?_
          refine rmB rfl rfl rfl rfl rfl ?_
          refine rnot (c := true) rfl rfl rfl rfl rfl ?_
          refine rNil ?_
          refine qSeq ?_
          refine wF rfl ?_
          refine wSkip ?_
          refine qSeq ?_
          refine wSeq ?_
          refine wDraw [0, 0, 2, 7, 0, 16, 63, 127, 255] rfl (by decide +kernel) ?_
          refine dbs (es := []) rfl rfl rfl rfl (Nat.succ_ne_zero _) (Nat.le_of_ble_eq_true rfl) rfl rfl rfl rfl rfl ?_
          refine dfa (off := 9) (s := 1) (r := false) rfl rfl rfl (Nat.succ_ne_zero _) rfl rfl rfl ?_
          (apply dlc (v := .sl _ _ _) rfl rfl; (first | ((simp (disch := omega) only [↓app0, ↓appC, ↓updS, ↓updN, ↓hpS, ↓hpN]) <;> first | rfl | assumption) | assumption | rfl); rfl; rfl; rfl; rfl; rfl; rfl)
          (apply dap (s' := 32) rfl rfl; (first | ((simp (disch := omega) only [↓app0, ↓appC, ↓updS, ↓updN, ↓hpS, ↓hpN]) <;> first | rfl | assumption) | assumption | rfl); rfl; rfl; (first | rfl | (focus (simp only [List.length_append, List.length_drop, List.length_map, List.length_cons, List.length_nil, Nat.sub_zero, Nat.zero_add]; done)) | (focus (simp only [List.length_append, List.length_drop, List.length_map, List.length_cons, List.length_nil, Nat.sub_zero, Nat.zero_add]; omega))); rfl; rfl; exact (Nat.succ_ne_zero _); rfl; exact (lenAnF false acc); (first | exact Nat.le_of_ble_eq_true rfl | (focus (simp only [List.length_append, List.length_drop, List.length_map, List.length_cons, List.length_nil, Nat.sub_zero, Nat.zero_add]; omega)) | omega); (first | exact Nat.le_of_ble_eq_true rfl | (focus (simp only [List.length_append, List.length_drop, List.length_map, List.length_cons, List.length_nil, Nat.sub_zero, Nat.zero_add]; omega)) | omega); rfl; rfl; rfl)
          (apply dlr (vs := [.int _ _, .int _ _, .int _ _, .int _ _]) rfl rfl; (first | ((simp (disch := omega) only [↓app0, ↓appC, ↓updS, ↓updN, ↓hpS, ↓hpN]) <;> first | rfl | assumption) | assumption | rfl); rfl; rfl; (exact Nat.le_of_ble_eq_true rfl); rfl; rfl; rfl; rfl)
          refine dbs (es := [[.int _ _, .int _ _, .int _ _, .int _ _]]) rfl rfl rfl rfl (Nat.succ_ne_zero _) (Nat.le_of_ble_eq_true rfl) rfl rfl rfl rfl rfl ?_
          (apply dap (s' := 32) (es := [[.int _ _, .int _ _, .int _ _, .int _ _]]) rfl rfl; (first | ((simp (disch := omega) only [↓app0, ↓appC, ↓updS, ↓updN, ↓hpS, ↓hpN]) <;> first | rfl | assumption) | assumption | rfl); rfl; rfl; (first | rfl | (focus (simp only [List.length_append, List.length_drop, List.length_map, List.length_cons, List.length_nil, Nat.sub_zero, Nat.zero_add]; done)) | (focus (simp only [List.length_append, List.length_drop, List.length_map, List.length_cons, List.length_nil, Nat.sub_zero, Nat.zero_add]; omega))); rfl; rfl; exact (Nat.succ_ne_zero _); (first | rfl | (apply srcView rfl; (first | ((simp (disch := omega) only [↓app0, ↓appC, ↓updS, ↓updN, ↓hpS, ↓hpN]) <;> first | rfl | assumption) | assumption | rfl); (first | exact Nat.le_refl _ | omega); rfl)); (first | rfl | assumption | (focus (simp; done)) | (focus (intro _ hc; rw [List.mem_singleton] at hc; subst hc; rfl)) | (intro _ _; simp_all)); (first | omega | (focus (simp only [List.length_cons, List.length_nil]; omega)) | exact Nat.le_of_ble_eq_true rfl | (focus (simp only [List.length_append, List.length_drop, List.length_map, List.length_cons, List.length_nil, Nat.sub_zero, Nat.zero_add]; omega))); (first | omega | (focus (simp only [List.length_cons, List.length_nil]; omega)) | exact Nat.le_of_ble_eq_true rfl | (focus (simp only [List.length_append, List.length_drop, List.length_map, List.length_cons, List.length_nil, Nat.sub_zero, Nat.zero_add]; omega))); rfl; rfl; rfl)
          refine dfa (off := 9) (s := 1) (r := false) rfl rfl rfl (Nat.succ_ne_zero _) rfl rfl rfl ?_
          (apply dst (u := .view _ _ _) rfl rfl rfl; (first | ((simp (disch := omega) only [↓app0, ↓appC, ↓updS, ↓updN, ↓hpS, ↓hpN]) <;> first | rfl | assumption) | assumption | rfl); rfl; rfl; rfl; rfl; rfl; (exact Nat.le_of_ble_eq_true rfl); rfl; rfl; rfl)
          refine dNilR 9 [3, 0, 3, 3, 1, 3, 1, 0, 3] [(0, 2), (0, 4), (3, 4), (0, 5), (2, 5), (3, 5)] rfl rfl (by decide +kernel) ?_ ?_
          · (simp [ClearL, ids, srcIds, Env.eval, upd, retV, A.toV, T.toV]; try omega)
          refine qSeq ?_
          refine wSeq ?_
          refine wRegion ?_
          refine rfa (off := 2) (s := 1) (r := false) rfl rfl rfl (Nat.succ_ne_zero _) rfl rfl rfl ?_
          (apply rst (u := .bool _) rfl rfl rfl; (first | ((simp (disch := omega) only [↓app0, ↓appC, ↓updS, ↓updN, ↓hpS, ↓hpN]) <;> first | rfl | assumption) | assumption | rfl); rfl; rfl; rfl; rfl; rfl; (exact Nat.le_of_ble_eq_true rfl); rfl; rfl; rfl)
          refine rNil ?_
          refine qSeq ?_
          refine wSeq ?_
          refine wRegion ?_
          refine rbd (cs := [.int _ _, .int _ _, .int _ _, .int _ _, .str _]) rfl rfl rfl rfl rfl ?_
          refine rfa (off := 3) (s := 5) (r := true) rfl rfl rfl (Nat.succ_ne_zero _) rfl rfl rfl ?_
          (apply rst (u := .agg [.int _ _, .int _ _, .int _ _, .int _ _, .str _]) rfl rfl rfl; (first | ((simp (disch := omega) only [↓app0, ↓appC, ↓updS, ↓updN, ↓hpS, ↓hpN]) <;> first | rfl | assumption) | assumption | rfl); rfl; rfl; rfl; rfl; rfl; (exact Nat.le_of_ble_eq_true rfl); rfl; rfl; rfl)
          refine rNil ?_
          refine qSeq ?_
          refine wSeq ?_
          refine wRegion ?_
          refine rbs (es := []) rfl rfl rfl rfl (Nat.succ_ne_zero _) (Nat.le_of_ble_eq_true rfl) rfl rfl rfl rfl rfl ?_
          refine rfa (off := 8) (s := 1) (r := false) rfl rfl rfl (Nat.succ_ne_zero _) rfl rfl rfl ?_
          (apply rst (u := .view _ _ _) rfl rfl rfl; (first | ((simp (disch := omega) only [↓app0, ↓appC, ↓updS, ↓updN, ↓hpS, ↓hpN]) <;> first | rfl | assumption) | assumption | rfl); rfl; rfl; rfl; rfl; rfl; (exact Nat.le_of_ble_eq_true rfl); rfl; rfl; rfl)
          refine rNil ?_
          refine qSeq ?_
          refine wSeq ?_
          refine wRegion ?_
          (apply rlr (vs := [.int _ _, .int _ _, .bool _, .int _ _, .int _ _, .int _ _, .int _ _, .str _, _, _]) rfl rfl; (first | ((simp (disch := omega) only [↓app0, ↓appC, ↓updS, ↓updN, ↓hpS, ↓hpN]) <;> first | rfl | assumption) | assumption | rfl); rfl; rfl; (exact Nat.le_of_ble_eq_true rfl); rfl; rfl; rfl; rfl)
          (apply rst (u := .agg [.int _ _, .int _ _, .bool _, .int _ _, .int _ _, .int _ _, .int _ _, .str _, _, _]) rfl rfl rfl; (first | ((simp (disch := omega) only [↓app0, ↓appC, ↓updS, ↓updN, ↓hpS, ↓hpN]) <;> first | rfl | assumption) | assumption | rfl); rfl; rfl; rfl; rfl; rfl; (exact Nat.le_of_ble_eq_true rfl); rfl; rfl; rfl)
          refine raI rfl rfl rfl rfl rfl ?_
          refine rNil ?_
          refine qSeq ?_
          refine wRet ?_
          refine finO (resL_cons (resV_row rfl (by (first | ((simp (disch := omega) only [↓app0, ↓appC, ↓updS, ↓updN, ↓hpS, ↓hpN]) <;> first | rfl | assumption) | assumption | rfl)) rfl rfl (Nat.le_of_ble_eq_true rfl) rfl) (resL_cons rfl resL_nil)) ?_ ?_ (Nat.le_refl _)
          · exact (congrArg (fun k => V.tup [.agg [.int .i64 ci, .int .i64 cs, .bool false, .int .i64 0, .int .i64 0, .int .i64 0, .int .i64 0, .str ⟨#[]⟩, .view (n + 12) 0 0, .view (n + 11) 0 k], .int .i64 0]) eK)
          · exact (leWr (by
            intro j hj
            simp only [List.map_cons, List.map_nil, List.mem_cons, List.not_mem_nil, or_false] at hj
            rcases hj with rfl | rfl <;> (simp (disch := omega) only [↓app0, ↓appC, ↓updS, ↓updN]) <;> first | rfl | (exact congrArg (fun z => some (Blk.mk z 4 42)) eA)) (fun j hj hn => by
            simp only [List.map_cons, List.map_nil, List.mem_cons, List.not_mem_nil, or_false, not_or] at hn
            simp (disch := omega) only [↓app0, ↓appC, ↓updS, ↓updN]))
  · refine rnot (c := false) rfl rfl rfl rfl rfl ?_
    refine raB rfl rfl rfl rfl rfl ?_
    refine rNil ?_
    refine qSeq ?_
    refine wT rfl ?_
    refine wSeq ?_
    exact absurd hfr h1_2
end Go.Proofs.YtcafccndgpopkaaDoor
