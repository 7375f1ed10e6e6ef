import Derived.Test.YtcafccndgpopkaaDoorU12
namespace Go.Proofs.YtcafccndgpopkaaDoor
open Go.V
set_option linter.unusedVariables false
set_option linter.unusedSimpArgs false
set_option maxRecDepth 20000
set_option maxHeartbeats 4000000

theorem o21VVu (n0 : Int) (c : Cl) (r : Rp) (hb : c.bz = true) (hr : r.OK n0 ∧ r.cl = c.id ∧ r.st = c.st) (hl : c.rps.length < 40) (hl2 : c.acc.length ≤ 1048576) (hd : dec n0 c.id c.st (c.rps ++ [r]) = none) {id id1 id2 : Nat} {h : Heap} {n : Nat} (hid : id < n) (hh : h id = some ⟨[c.V (.view id1 0 c.rps.length) (.view id2 0 c.acc.length)], 10, 38⟩) (k1 : h id1 = some ⟨c.rps.map Rp.V, 8, 44⟩) (hi1 : id1 < n) (hn1 : id1 ≠ id) (k2 : h id2 = some ⟨c.acc.map An.V, 4, 42⟩) (hi2 : id2 < n) (hn2 : id2 ≠ id) (hn3 : id1 ≠ id2) :
    V.Open En 32 [.ptr id 0 0, .int .i64 n0, .agg r.V] h n (.int .i64 0) [(id1, none), (id, some ⟨[c.V (.view (n + 2) 0 (c.rps.length + 1)) (.view id2 0 c.acc.length)], 10, 38⟩), (n + 2, some ⟨(c.rps ++ [r]).map Rp.V, 8, 44⟩)] (n + 4) := by
  have hp := p28 n0 c.id c.st true (c.rps ++ [r]) (by simp; omega)
  rw [hd] at hp
  obtain ⟨ci, cs, cb, cr, rps, acc⟩ := c
  dsimp only at hb
  subst hb
  unfold Cl.V at hh
  dsimp only [Option.getD_some, Option.getD_none, Option.isSome] at hh hr hl hl2 hp k1 k2
  refine V.Open.of_wp Tryd.func32 rfl (Nat.le_of_ble_eq_true rfl) ?_
  refine wSeq ?_
  refine wRegion ?_
  refine rbx (u := .agg [.int _ _, .int _ _, .int _ _, .int _ _, .int _ _, .int _ _, .int _ _, .str _]) rfl rfl rfl rfl rfl rfl rfl ?_
  refine raI rfl rfl rfl rfl rfl ?_
  refine rNil ?_
  refine qSeq ?_
  refine wSeq ?_
  refine wBlock ?_
  refine wSeq ?_
  refine wRegion ?_
  refine rmI rfl rfl rfl rfl rfl ?_
  (apply rlr (vs := [.int _ _, .int _ _, .int _ _, .int _ _, .int _ _, .int _ _, .int _ _, .str _]) rfl rfl; (first | ((simp (disch := omega) only [↓app0, ↓appC, ↓updS, ↓updN, ↓hpS, ↓hpN]) <;> first | rfl | assumption) | assumption | rfl); rfl; rfl; (exact Nat.le_of_ble_eq_true rfl); rfl; rfl; rfl; rfl)
  refine rclP (p27 n0 r) rfl rfl rfl rfl rfl rfl ?_ ?_ <;> intro h1_2
  · refine rnot (c := true) rfl rfl rfl rfl rfl ?_
    refine raB rfl rfl rfl rfl rfl ?_
    refine rNil ?_
    refine qSeq ?_
    refine wF rfl ?_
    refine wSeq ?_
    refine wDraw [0, 1, 3, 7, 15, 31, 63, 127, 63, 319, 831, 1855, 4095, 8191, 16383, 32767, 65535, 32767, 163839, 425983, 950271, 2097151, 4194303, 8388607] rfl (by decide +kernel) ?_
    refine dmP rfl rfl rfl rfl rfl ?_
    refine dnc (v := .ptr _ _ _) rfl rfl rfl rfl rfl rfl ?_
    refine dfa (off := 2) (s := 1) (r := false) rfl rfl rfl (Nat.succ_ne_zero _) rfl rfl rfl ?_
    (apply dlc (v := .bool true) rfl rfl; (first | ((simp (disch := omega) only [↓app0, ↓appC, ↓updS, ↓updN, ↓hpS, ↓hpN]) <;> first | rfl | assumption) | assumption | rfl); rfl; rfl; rfl; rfl; rfl; rfl)
    refine dnot (c := true) rfl rfl rfl rfl rfl ?_
    refine dmB rfl rfl rfl rfl rfl ?_
    refine dfa (off := 1) (s := 1) (r := false) rfl rfl rfl (Nat.succ_ne_zero _) rfl rfl rfl ?_
    (apply dlc (v := .int _ _) rfl rfl; (first | ((simp (disch := omega) only [↓app0, ↓appC, ↓updS, ↓updN, ↓hpS, ↓hpN]) <;> first | rfl | assumption) | assumption | rfl); rfl; rfl; rfl; rfl; rfl; rfl)
    refine dmP rfl rfl rfl rfl rfl ?_
    refine dnc (v := .ptr _ _ _) rfl rfl rfl rfl rfl rfl ?_
    refine dfa (off := 0) (s := 1) (r := false) rfl rfl rfl (Nat.succ_ne_zero _) rfl rfl rfl ?_
    (apply dlc (v := .int _ _) rfl rfl; (first | ((simp (disch := omega) only [↓app0, ↓appC, ↓updS, ↓updN, ↓hpS, ↓hpN]) <;> first | rfl | assumption) | assumption | rfl); rfl; rfl; rfl; rfl; rfl; rfl)
    refine dne rfl rfl rfl rfl rfl rfl ?_ ?_ <;> intro h3_12
    · refine dpk (e := true) rfl rfl rfl rfl rfl rfl ?_
      refine dmB rfl rfl rfl rfl rfl ?_
      refine dSkip rfl rfl rfl ?_
      refine dSkip rfl rfl rfl ?_
      refine dSkip rfl rfl rfl ?_
      refine dSkip rfl rfl rfl ?_
      refine dSkip rfl rfl rfl ?_
      refine dSkip rfl rfl rfl ?_
      refine dSkip rfl rfl rfl ?_
      refine dpk (e := true) rfl rfl rfl rfl rfl rfl ?_
      refine daB rfl rfl rfl rfl rfl ?_
      refine dNilR 24 [0, 0, 0, 0, 0, 0, 0, 0, 0, 0, 0, 0, 1, 0, 0, 0, 1, 0, 0, 0, 1, 0, 0, 0] [] rfl rfl (by decide +kernel) trivial ?_
      refine qSeq ?_
      refine wT rfl ?_
      refine wSeq ?_
      first | exact absurd hr.2.1 h3_12 | exact absurd hr.2.2 h3_21
    · refine dpk (e := false) rfl rfl rfl rfl rfl rfl ?_
      refine dmB rfl rfl rfl rfl rfl ?_
      refine dfa (off := 2) (s := 1) (r := false) rfl rfl rfl (Nat.succ_ne_zero _) rfl rfl rfl ?_
      (apply dlc (v := .int _ _) rfl rfl; (first | ((simp (disch := omega) only [↓app0, ↓appC, ↓updS, ↓updN, ↓hpS, ↓hpN]) <;> first | rfl | assumption) | assumption | rfl); rfl; rfl; rfl; rfl; rfl; rfl)
      refine dmP rfl rfl rfl rfl rfl ?_
      refine dnc (v := .ptr _ _ _) rfl rfl rfl rfl rfl rfl ?_
      refine dfa (off := 1) (s := 1) (r := false) rfl rfl rfl (Nat.succ_ne_zero _) rfl rfl rfl ?_
      (apply dlc (v := .int _ _) rfl rfl; (first | ((simp (disch := omega) only [↓app0, ↓appC, ↓updS, ↓updN, ↓hpS, ↓hpN]) <;> first | rfl | assumption) | assumption | rfl); rfl; rfl; rfl; rfl; rfl; rfl)
      refine dne rfl rfl rfl rfl rfl rfl ?_ ?_ <;> intro h3_21
      · refine dpk (e := true) rfl rfl rfl rfl rfl rfl ?_
        refine daB rfl rfl rfl rfl rfl ?_
        refine dNilR 24 [0, 0, 0, 1, 0, 0, 0, 1, 0, 0, 0, 0, 1, 0, 0, 0, 1, 0, 0, 0, 1, 0, 0, 0] [] rfl rfl (by decide +kernel) trivial ?_
        refine qSeq ?_
        refine wT rfl ?_
        refine wSeq ?_
        first | exact absurd hr.2.1 h3_12 | exact absurd hr.2.2 h3_21
      · refine dpk (e := false) rfl rfl rfl rfl rfl rfl ?_
        refine daB rfl rfl rfl rfl rfl ?_
        refine dNilR 24 [0, 0, 0, 1, 0, 0, 0, 1, 0, 0, 0, 0, 1, 0, 0, 0, 1, 0, 0, 0, 1, 0, 0, 0] [] rfl rfl (by decide +kernel) trivial ?_
        refine qSeq ?_
        refine wF rfl ?_
        refine wSeq ?_
        refine wRegion ?_
        refine rmP rfl rfl rfl rfl rfl ?_
        refine rnc (v := .ptr _ _ _) rfl rfl rfl rfl rfl rfl ?_
        refine rfa (off := 8) (s := 1) (r := false) rfl rfl rfl (Nat.succ_ne_zero _) rfl rfl rfl ?_
        (apply rlc  rfl rfl; (first | ((simp (disch := omega) only [↓app0, ↓appC, ↓updS, ↓updN, ↓hpS, ↓hpN]) <;> first | rfl | assumption) | assumption | rfl); rfl; rfl; rfl; rfl; rfl; rfl)
        refine rll rfl rfl rfl rfl rfl rfl ?_
        refine req rfl rfl rfl rfl rfl rfl ?_ ?_ <;> intro h5_5
        · refine raB rfl rfl rfl rfl rfl ?_
          refine rNil ?_
          refine qSeq ?_
          refine wT rfl ?_
          refine wSeq ?_
          exact absurd h5_5 (by omega)
        · refine raB rfl rfl rfl rfl rfl ?_
          refine rNil ?_
          refine qSeq ?_
          refine wF rfl ?_
          refine wSkip ?_
          refine qBlock ?_
          refine qSeq ?_
          refine wSeq ?_
          refine wDraw [0, 0, 2, 6, 14, 0, 32, 126, 255, 511, 1023] rfl (by decide +kernel) ?_
          refine dmP rfl rfl rfl rfl rfl ?_
          refine dmP rfl rfl rfl rfl rfl ?_
          refine dnc (v := .ptr _ _ _) rfl rfl rfl rfl rfl rfl ?_
          refine dfa (off := 8) (s := 1) (r := false) rfl rfl rfl (Nat.succ_ne_zero _) rfl rfl rfl ?_
          (apply dlc  rfl rfl; (first | ((simp (disch := omega) only [↓app0, ↓appC, ↓updS, ↓updN, ↓hpS, ↓hpN]) <;> first | rfl | assumption) | assumption | rfl); rfl; rfl; rfl; rfl; rfl; rfl)
          (apply dlr (vs := [.int _ _, .int _ _, .int _ _, .int _ _, .int _ _, .int _ _, .int _ _, .str _]) rfl rfl; (first | ((simp (disch := omega) only [↓app0, ↓appC, ↓updS, ↓updN, ↓hpS, ↓hpN]) <;> first | rfl | assumption) | assumption | rfl); rfl; rfl; (exact Nat.le_of_ble_eq_true rfl); rfl; rfl; rfl; rfl)
          refine dbs (es := [[.int _ _, .int _ _, .int _ _, .int _ _, .int _ _, .int _ _, .int _ _, .str _]]) rfl rfl rfl rfl (Nat.succ_ne_zero _) (Nat.le_of_ble_eq_true rfl) rfl rfl rfl rfl rfl ?_
          (apply dap (s' := 72) (es := [[.int _ _, .int _ _, .int _ _, .int _ _, .int _ _, .int _ _, .int _ _, .str _]]) rfl rfl; (first | ((simp (disch := omega) only [↓app0, ↓appC, ↓updS, ↓updN, ↓hpS, ↓hpN]) <;> first | rfl | assumption) | assumption | rfl); rfl; rfl; (first | rfl | omega | (show _ = (List.map Rp.V rps).length; rw [List.length_map]; omega) | (show _ = (List.map An.V acc).length; rw [List.length_map]; omega)); rfl; rfl; exact (Nat.succ_ne_zero _); (first | rfl | (apply srcView rfl; (first | ((simp (disch := omega) only [↓app0, ↓appC, ↓updS, ↓updN, ↓hpS, ↓hpN]) <;> first | rfl | assumption) | assumption | rfl); (first | exact Nat.le_refl _ | omega); rfl)); (first | rfl | assumption | (focus (simp; done)) | (focus (intro _ hc; rw [List.mem_singleton] at hc; subst hc; rfl)) | (intro _ _; simp_all)); (first | omega | (focus (simp only [List.length_cons, List.length_nil]; omega)) | ((show (_ + 1) * _ ≤ _); omega) | ((show _ + 1 ≤ _); omega)); (first | omega | (focus (simp only [List.length_cons, List.length_nil]; omega)) | ((show (_ + 1) * _ ≤ _); omega) | ((show _ + 1 ≤ _); omega)); rfl; rfl; rfl)
          refine dnc (v := .ptr _ _ _) rfl rfl rfl rfl rfl rfl ?_
          refine dfa (off := 8) (s := 1) (r := false) rfl rfl rfl (Nat.succ_ne_zero _) rfl rfl rfl ?_
          (apply dst (u := .view _ _ _) rfl rfl rfl; (first | ((simp (disch := omega) only [↓app0, ↓appC, ↓updS, ↓updN, ↓hpS, ↓hpN]) <;> first | rfl | assumption) | assumption | rfl); rfl; rfl; rfl; rfl; rfl; (exact Nat.le_of_ble_eq_true rfl); rfl; rfl; rfl)
          refine dNilR 11 [3, 0, 0, 3, 3, 1, 1, 0, 0, 0, 0] [(4, 6)] rfl rfl (by decide +kernel) ?_ ?_
          · (simp [ClearL, ids]; try omega)
          refine qSeq ?_
          refine wSeq ?_
          refine wSeq ?_
          refine wDraw [0, 0, 2, 6, 14, 0, 32, 96, 224, 0, 512, 1536, 3584, 8191, 16383, 32767, 32767, 0, 196607, 524287] rfl (by decide +kernel) ?_
          refine dmI rfl rfl rfl rfl rfl ?_
          refine dmP rfl rfl rfl rfl rfl ?_
          refine dnc (v := .ptr _ _ _) rfl rfl rfl rfl rfl rfl ?_
          refine dfa (off := 0) (s := 1) (r := false) rfl rfl rfl (Nat.succ_ne_zero _) rfl rfl rfl ?_
          (apply dlc (v := .int _ _) rfl rfl; (first | ((simp (disch := omega) only [↓app0, ↓appC, ↓updS, ↓updN, ↓hpS, ↓hpN]) <;> first | rfl | assumption) | assumption | rfl); rfl; rfl; rfl; rfl; rfl; rfl)
          refine dmP rfl rfl rfl rfl rfl ?_
          refine dnc (v := .ptr _ _ _) rfl rfl rfl rfl rfl rfl ?_
          refine dfa (off := 1) (s := 1) (r := false) rfl rfl rfl (Nat.succ_ne_zero _) rfl rfl rfl ?_
          (apply dlc (v := .int _ _) rfl rfl; (first | ((simp (disch := omega) only [↓app0, ↓appC, ↓updS, ↓updN, ↓hpS, ↓hpN]) <;> first | rfl | assumption) | assumption | rfl); rfl; rfl; rfl; rfl; rfl; rfl)
          refine dmP rfl rfl rfl rfl rfl ?_
          refine dnc (v := .ptr _ _ _) rfl rfl rfl rfl rfl rfl ?_
          refine dfa (off := 8) (s := 1) (r := false) rfl rfl rfl (Nat.succ_ne_zero _) rfl rfl rfl ?_
          (apply dlc  rfl rfl; (first | ((simp (disch := omega) only [↓app0, ↓appC, ↓updS, ↓updN, ↓hpS, ↓hpN]) <;> first | rfl | assumption) | assumption | rfl); rfl; rfl; rfl; rfl; rfl; rfl)
          apply dclS [n + 2] hp rfl rfl rfl
          · exact SnapL.cons _ _ _ _ (.one _ _ (.int _ _)) (SnapL.cons _ _ _ _ (.one _ _ (.int _ _)) (SnapL.cons _ _ _ _ (.one _ _ (.int _ _)) (SnapL.cons _ _ _ _ (.one _ _ (snapView (b := ⟨(rps ++ [r]).map Rp.V, 8, 44⟩) ((rps ++ [r]).map Rp.T) (List.mem_singleton.2 rfl) (by (simp (disch := omega) only [↓app0, ↓appC, ↓updS, ↓updN]) <;> exact congrArg (fun z => some (Blk.mk z 8 44)) (by simp only [List.map_append]; rfl)) (rowsRp2 _).symm (by simp))) SnapL.nil)))
          · rfl
          · rfl
          · rfl
          refine dmT rfl rfl rfl rfl rfl ?_
          refine dex rfl rfl rfl rfl rfl rfl ?_
          refine dex rfl rfl rfl rfl rfl rfl ?_
          refine dal rfl rfl rfl rfl rfl rfl ?_
          (apply dst (u := .agg [.int _ _, .int _ _, .int _ _, .int _ _]) rfl rfl rfl; (first | ((simp (disch := omega) only [↓app0, ↓appC, ↓updS, ↓updN, ↓hpS, ↓hpN]) <;> first | rfl | assumption) | assumption | rfl); rfl; rfl; rfl; rfl; rfl; (exact Nat.le_of_ble_eq_true rfl); rfl; rfl; rfl)
          refine daB rfl rfl rfl rfl rfl ?_
          refine dNilR 20 [0, 3, 3, 0, 0, 0, 1, 1, 0, 0, 0, 1, 0, 0, 0, 1, 0, 0, 0, 0] [(4, 17), (8, 17), (12, 17), (13, 17)] rfl rfl (by decide +kernel) ?_ ?_
          · (simp [ClearL, ids]; try omega)
          refine qSeq ?_
          refine wSeq ?_
          refine wRegion ?_
          refine rmB rfl rfl rfl rfl rfl ?_
          refine rNil ?_
          refine qSeq ?_
          refine wF rfl ?_
          refine wSkip ?_
          refine qSeq ?_
          refine wSeq ?_
          refine wRegion ?_
          refine raI rfl rfl rfl rfl rfl ?_
          refine rNil ?_
          refine qSeq ?_
          refine wRet ?_
          exact finO rfl rfl (leWr (by
            intro j hj
            simp only [List.map_cons, List.map_nil, List.mem_cons, List.not_mem_nil, or_false] at hj
            rcases hj with rfl | rfl | rfl <;> (simp (disch := omega) only [↓app0, ↓appC, ↓updS, ↓updN]) <;> first | rfl | (exact congrArg (fun z => some (Blk.mk z 8 44)) (by simp only [List.map_append]; rfl))) (fun j hj hn => by
            simp only [List.map_cons, List.map_nil, List.mem_cons, List.not_mem_nil, or_false, not_or] at hn
            simp (disch := omega) only [↓app0, ↓appC, ↓updS, ↓updN])) (Nat.le_refl _)
  · refine rnot (c := false) rfl rfl rfl rfl rfl ?_
    refine raB rfl rfl rfl rfl rfl ?_
    refine rNil ?_
    refine qSeq ?_
    refine wT rfl ?_
    refine wSeq ?_
    exact absurd hr.1 h1_2

theorem o21VVd (n0 : Int) (c : Cl) (r : Rp) (hb : c.bz = true) (hr : r.OK n0 ∧ r.cl = c.id ∧ r.st = c.st) (hl : c.rps.length < 40) (hl2 : c.acc.length ≤ 1048576) {a : An} (hd : dec n0 c.id c.st (c.rps ++ [r]) = some a) {id id1 id2 : Nat} {h : Heap} {n : Nat} (hid : id < n) (hh : h id = some ⟨[c.V (.view id1 0 c.rps.length) (.view id2 0 c.acc.length)], 10, 38⟩) (k1 : h id1 = some ⟨c.rps.map Rp.V, 8, 44⟩) (hi1 : id1 < n) (hn1 : id1 ≠ id) (k2 : h id2 = some ⟨c.acc.map An.V, 4, 42⟩) (hi2 : id2 < n) (hn2 : id2 ≠ id) (hn3 : id1 ≠ id2) :
    V.Open En 32 [.ptr id 0 0, .int .i64 n0, .agg r.V] h n (.int .i64 0) [(id1, none), (id2, none), (id, some ⟨[(Cl.mk c.id c.st false Rq0 [] []).V .nsl (.view (n + 5) 0 (c.acc.length + 1))], 10, 38⟩), (n + 5, some ⟨(c.acc ++ [a]).map An.V, 4, 42⟩)] (n + 6) := by
  have hp := p28 n0 c.id c.st true (c.rps ++ [r]) (by simp; omega)
  rw [hd] at hp
  obtain ⟨ci, cs, cb, cr, rps, acc⟩ := c
  dsimp only at hb
  subst hb
  unfold Cl.V at hh
  dsimp only [Option.getD_some, Option.getD_none, Option.isSome] at hh hr hl hl2 hp k1 k2
  refine V.Open.of_wp Tryd.func32 rfl (Nat.le_of_ble_eq_true rfl) ?_
  refine wSeq ?_
  refine wRegion ?_
  refine rbx (u := .agg [.int _ _, .int _ _, .int _ _, .int _ _, .int _ _, .int _ _, .int _ _, .str _]) rfl rfl rfl rfl rfl rfl rfl ?_
  refine raI rfl rfl rfl rfl rfl ?_
  refine rNil ?_
  refine qSeq ?_
  refine wSeq ?_
  refine wBlock ?_
  refine wSeq ?_
  refine wRegion ?_
  refine rmI rfl rfl rfl rfl rfl ?_
  (apply rlr (vs := [.int _ _, .int _ _, .int _ _, .int _ _, .int _ _, .int _ _, .int _ _, .str _]) rfl rfl; (first | ((simp (disch := omega) only [↓app0, ↓appC, ↓updS, ↓updN, ↓hpS, ↓hpN]) <;> first | rfl | assumption) | assumption | rfl); rfl; rfl; (exact Nat.le_of_ble_eq_true rfl); rfl; rfl; rfl; rfl)
  refine rclP (p27 n0 r) rfl rfl rfl rfl rfl rfl ?_ ?_ <;> intro h1_2
  · refine rnot (c := true) rfl rfl rfl rfl rfl ?_
    refine raB rfl rfl rfl rfl rfl ?_
    refine rNil ?_
    refine qSeq ?_
    refine wF rfl ?_
    refine wSeq ?_
    refine wDraw [0, 1, 3, 7, 15, 31, 63, 127, 63, 319, 831, 1855, 4095, 8191, 16383, 32767, 65535, 32767, 163839, 425983, 950271, 2097151, 4194303, 8388607] rfl (by decide +kernel) ?_
    refine dmP rfl rfl rfl rfl rfl ?_
    refine dnc (v := .ptr _ _ _) rfl rfl rfl rfl rfl rfl ?_
    refine dfa (off := 2) (s := 1) (r := false) rfl rfl rfl (Nat.succ_ne_zero _) rfl rfl rfl ?_
    (apply dlc (v := .bool true) rfl rfl; (first | ((simp (disch := omega) only [↓app0, ↓appC, ↓updS, ↓updN, ↓hpS, ↓hpN]) <;> first | rfl | assumption) | assumption | rfl); rfl; rfl; rfl; rfl; rfl; rfl)
    refine dnot (c := true) rfl rfl rfl rfl rfl ?_
    refine dmB rfl rfl rfl rfl rfl ?_
    refine dfa (off := 1) (s := 1) (r := false) rfl rfl rfl (Nat.succ_ne_zero _) rfl rfl rfl ?_
    (apply dlc (v := .int _ _) rfl rfl; (first | ((simp (disch := omega) only [↓app0, ↓appC, ↓updS, ↓updN, ↓hpS, ↓hpN]) <;> first | rfl | assumption) | assumption | rfl); rfl; rfl; rfl; rfl; rfl; rfl)
    refine dmP rfl rfl rfl rfl rfl ?_
    refine dnc (v := .ptr _ _ _) rfl rfl rfl rfl rfl rfl ?_
    refine dfa (off := 0) (s := 1) (r := false) rfl rfl rfl (Nat.succ_ne_zero _) rfl rfl rfl ?_
    (apply dlc (v := .int _ _) rfl rfl; (first | ((simp (disch := omega) only [↓app0, ↓appC, ↓updS, ↓updN, ↓hpS, ↓hpN]) <;> first | rfl | assumption) | assumption | rfl); rfl; rfl; rfl; rfl; rfl; rfl)
    refine dne rfl rfl rfl rfl rfl rfl ?_ ?_ <;> intro h3_12
    · refine dpk (e := true) rfl rfl rfl rfl rfl rfl ?_
      refine dmB rfl rfl rfl rfl rfl ?_
      refine dSkip rfl rfl rfl ?_
      refine dSkip rfl rfl rfl ?_
      refine dSkip rfl rfl rfl ?_
      refine dSkip rfl rfl rfl ?_
      refine dSkip rfl rfl rfl ?_
      refine dSkip rfl rfl rfl ?_
      refine dSkip rfl rfl rfl ?_
      refine dpk (e := true) rfl rfl rfl rfl rfl rfl ?_
      refine daB rfl rfl rfl rfl rfl ?_
      refine dNilR 24 [0, 0, 0, 0, 0, 0, 0, 0, 0, 0, 0, 0, 1, 0, 0, 0, 1, 0, 0, 0, 1, 0, 0, 0] [] rfl rfl (by decide +kernel) trivial ?_
      refine qSeq ?_
      refine wT rfl ?_
      refine wSeq ?_
      first | exact absurd hr.2.1 h3_12 | exact absurd hr.2.2 h3_21
    · refine dpk (e := false) rfl rfl rfl rfl rfl rfl ?_
      refine dmB rfl rfl rfl rfl rfl ?_
      refine dfa (off := 2) (s := 1) (r := false) rfl rfl rfl (Nat.succ_ne_zero _) rfl rfl rfl ?_
      (apply dlc (v := .int _ _) rfl rfl; (first | ((simp (disch := omega) only [↓app0, ↓appC, ↓updS, ↓updN, ↓hpS, ↓hpN]) <;> first | rfl | assumption) | assumption | rfl); rfl; rfl; rfl; rfl; rfl; rfl)
      refine dmP rfl rfl rfl rfl rfl ?_
      refine dnc (v := .ptr _ _ _) rfl rfl rfl rfl rfl rfl ?_
      refine dfa (off := 1) (s := 1) (r := false) rfl rfl rfl (Nat.succ_ne_zero _) rfl rfl rfl ?_
      (apply dlc (v := .int _ _) rfl rfl; (first | ((simp (disch := omega) only [↓app0, ↓appC, ↓updS, ↓updN, ↓hpS, ↓hpN]) <;> first | rfl | assumption) | assumption | rfl); rfl; rfl; rfl; rfl; rfl; rfl)
      refine dne rfl rfl rfl rfl rfl rfl ?_ ?_ <;> intro h3_21
      · refine dpk (e := true) rfl rfl rfl rfl rfl rfl ?_
        refine daB rfl rfl rfl rfl rfl ?_
        refine dNilR 24 [0, 0, 0, 1, 0, 0, 0, 1, 0, 0, 0, 0, 1, 0, 0, 0, 1, 0, 0, 0, 1, 0, 0, 0] [] rfl rfl (by decide +kernel) trivial ?_
        refine qSeq ?_
        refine wT rfl ?_
        refine wSeq ?_
        first | exact absurd hr.2.1 h3_12 | exact absurd hr.2.2 h3_21
      · refine dpk (e := false) rfl rfl rfl rfl rfl rfl ?_
        refine daB rfl rfl rfl rfl rfl ?_
        refine dNilR 24 [0, 0, 0, 1, 0, 0, 0, 1, 0, 0, 0, 0, 1, 0, 0, 0, 1, 0, 0, 0, 1, 0, 0, 0] [] rfl rfl (by decide +kernel) trivial ?_
        refine qSeq ?_
        refine wF rfl ?_
        refine wSeq ?_
        refine wRegion ?_
        refine rmP rfl rfl rfl rfl rfl ?_
        refine rnc (v := .ptr _ _ _) rfl rfl rfl rfl rfl rfl ?_
        refine rfa (off := 8) (s := 1) (r := false) rfl rfl rfl (Nat.succ_ne_zero _) rfl rfl rfl ?_
        (apply rlc  rfl rfl; (first | ((simp (disch := omega) only [↓app0, ↓appC, ↓updS, ↓updN, ↓hpS, ↓hpN]) <;> first | rfl | assumption) | assumption | rfl); rfl; rfl; rfl; rfl; rfl; rfl)
        refine rll rfl rfl rfl rfl rfl rfl ?_
        refine req rfl rfl rfl rfl rfl rfl ?_ ?_ <;> intro h5_5
        · refine raB rfl rfl rfl rfl rfl ?_
          refine rNil ?_
          refine qSeq ?_
          refine wT rfl ?_
          refine wSeq ?_
          exact absurd h5_5 (by omega)
        · refine raB rfl rfl rfl rfl rfl ?_
          refine rNil ?_
          refine qSeq ?_
          refine wF rfl ?_
          refine wSkip ?_
          refine qBlock ?_
          refine qSeq ?_
          refine wSeq ?_
          refine wDraw [0, 0, 2, 6, 14, 0, 32, 126, 255, 511, 1023] rfl (by decide +kernel) ?_
          refine dmP rfl rfl rfl rfl rfl ?_
          refine dmP rfl rfl rfl rfl rfl ?_
          refine dnc (v := .ptr _ _ _) rfl rfl rfl rfl rfl rfl ?_
          refine dfa (off := 8) (s := 1) (r := false) rfl rfl rfl (Nat.succ_ne_zero _) rfl rfl rfl ?_
          (apply dlc  rfl rfl; (first | ((simp (disch := omega) only [↓app0, ↓appC, ↓updS, ↓updN, ↓hpS, ↓hpN]) <;> first | rfl | assumption) | assumption | rfl); rfl; rfl; rfl; rfl; rfl; rfl)
          (apply dlr (vs := [.int _ _, .int _ _, .int _ _, .int _ _, .int _ _, .int _ _, .int _ _, .str _]) rfl rfl; (first | ((simp (disch := omega) only [↓app0, ↓appC, ↓updS, ↓updN, ↓hpS, ↓hpN]) <;> first | rfl | assumption) | assumption | rfl); rfl; rfl; (exact Nat.le_of_ble_eq_true rfl); rfl; rfl; rfl; rfl)
          refine dbs (es := [[.int _ _, .int _ _, .int _ _, .int _ _, .int _ _, .int _ _, .int _ _, .str _]]) rfl rfl rfl rfl (Nat.succ_ne_zero _) (Nat.le_of_ble_eq_true rfl) rfl rfl rfl rfl rfl ?_
          (apply dap (s' := 72) (es := [[.int _ _, .int _ _, .int _ _, .int _ _, .int _ _, .int _ _, .int _ _, .str _]]) rfl rfl; (first | ((simp (disch := omega) only [↓app0, ↓appC, ↓updS, ↓updN, ↓hpS, ↓hpN]) <;> first | rfl | assumption) | assumption | rfl); rfl; rfl; (first | rfl | omega | (show _ = (List.map Rp.V rps).length; rw [List.length_map]; omega) | (show _ = (List.map An.V acc).length; rw [List.length_map]; omega)); rfl; rfl; exact (Nat.succ_ne_zero _); (first | rfl | (apply srcView rfl; (first | ((simp (disch := omega) only [↓app0, ↓appC, ↓updS, ↓updN, ↓hpS, ↓hpN]) <;> first | rfl | assumption) | assumption | rfl); (first | exact Nat.le_refl _ | omega); rfl)); (first | rfl | assumption | (focus (simp; done)) | (focus (intro _ hc; rw [List.mem_singleton] at hc; subst hc; rfl)) | (intro _ _; simp_all)); (first | omega | (focus (simp only [List.length_cons, List.length_nil]; omega)) | ((show (_ + 1) * _ ≤ _); omega) | ((show _ + 1 ≤ _); omega)); (first | omega | (focus (simp only [List.length_cons, List.length_nil]; omega)) | ((show (_ + 1) * _ ≤ _); omega) | ((show _ + 1 ≤ _); omega)); rfl; rfl; rfl)
          refine dnc (v := .ptr _ _ _) rfl rfl rfl rfl rfl rfl ?_
          refine dfa (off := 8) (s := 1) (r := false) rfl rfl rfl (Nat.succ_ne_zero _) rfl rfl rfl ?_
          (apply dst (u := .view _ _ _) rfl rfl rfl; (first | ((simp (disch := omega) only [↓app0, ↓appC, ↓updS, ↓updN, ↓hpS, ↓hpN]) <;> first | rfl | assumption) | assumption | rfl); rfl; rfl; rfl; rfl; rfl; (exact Nat.le_of_ble_eq_true rfl); rfl; rfl; rfl)
          refine dNilR 11 [3, 0, 0, 3, 3, 1, 1, 0, 0, 0, 0] [(4, 6)] rfl rfl (by decide +kernel) ?_ ?_
          · (simp [ClearL, ids]; try omega)
          refine qSeq ?_
          refine wSeq ?_
          refine wSeq ?_
          refine wDraw [0, 0, 2, 6, 14, 0, 32, 96, 224, 0, 512, 1536, 3584, 8191, 16383, 32767, 32767, 0, 196607, 524287] rfl (by decide +kernel) ?_
          refine dmI rfl rfl rfl rfl rfl ?_
          refine dmP rfl rfl rfl rfl rfl ?_
          refine dnc (v := .ptr _ _ _) rfl rfl rfl rfl rfl rfl ?_
          refine dfa (off := 0) (s := 1) (r := false) rfl rfl rfl (Nat.succ_ne_zero _) rfl rfl rfl ?_
          (apply dlc (v := .int _ _) rfl rfl; (first | ((simp (disch := omega) only [↓app0, ↓appC, ↓updS, ↓updN, ↓hpS, ↓hpN]) <;> first | rfl | assumption) | assumption | rfl); rfl; rfl; rfl; rfl; rfl; rfl)
          refine dmP rfl rfl rfl rfl rfl ?_
          refine dnc (v := .ptr _ _ _) rfl rfl rfl rfl rfl rfl ?_
          refine dfa (off := 1) (s := 1) (r := false) rfl rfl rfl (Nat.succ_ne_zero _) rfl rfl rfl ?_
          (apply dlc (v := .int _ _) rfl rfl; (first | ((simp (disch := omega) only [↓app0, ↓appC, ↓updS, ↓updN, ↓hpS, ↓hpN]) <;> first | rfl | assumption) | assumption | rfl); rfl; rfl; rfl; rfl; rfl; rfl)
          refine dmP rfl rfl rfl rfl rfl ?_
          refine dnc (v := .ptr _ _ _) rfl rfl rfl rfl rfl rfl ?_
          refine dfa (off := 8) (s := 1) (r := false) rfl rfl rfl (Nat.succ_ne_zero _) rfl rfl rfl ?_
          (apply dlc  rfl rfl; (first | ((simp (disch := omega) only [↓app0, ↓appC, ↓updS, ↓updN, ↓hpS, ↓hpN]) <;> first | rfl | assumption) | assumption | rfl); rfl; rfl; rfl; rfl; rfl; rfl)
          apply dclS [n + 2] hp rfl rfl rfl
          · exact SnapL.cons _ _ _ _ (.one _ _ (.int _ _)) (SnapL.cons _ _ _ _ (.one _ _ (.int _ _)) (SnapL.cons _ _ _ _ (.one _ _ (.int _ _)) (SnapL.cons _ _ _ _ (.one _ _ (snapView (b := ⟨(rps ++ [r]).map Rp.V, 8, 44⟩) ((rps ++ [r]).map Rp.T) (List.mem_singleton.2 rfl) (by (simp (disch := omega) only [↓app0, ↓appC, ↓updS, ↓updN]) <;> exact congrArg (fun z => some (Blk.mk z 8 44)) (by simp only [List.map_append]; rfl)) (rowsRp2 _).symm (by simp))) SnapL.nil)))
          · rfl
          · rfl
          · rfl
          refine dmT rfl rfl rfl rfl rfl ?_
          refine dex rfl rfl rfl rfl rfl rfl ?_
          refine dex rfl rfl rfl rfl rfl rfl ?_
          refine dal rfl rfl rfl rfl rfl rfl ?_
          (apply dst (u := .agg [.int _ _, .int _ _, .int _ _, .int _ _]) rfl rfl rfl; (first | ((simp (disch := omega) only [↓app0, ↓appC, ↓updS, ↓updN, ↓hpS, ↓hpN]) <;> first | rfl | assumption) | assumption | rfl); rfl; rfl; rfl; rfl; rfl; (exact Nat.le_of_ble_eq_true rfl); rfl; rfl; rfl)
          refine daB rfl rfl rfl rfl rfl ?_
          refine dNilR 20 [0, 3, 3, 0, 0, 0, 1, 1, 0, 0, 0, 1, 0, 0, 0, 1, 0, 0, 0, 0] [(4, 17), (8, 17), (12, 17), (13, 17)] rfl rfl (by decide +kernel) ?_ ?_
          · (simp [ClearL, ids]; try omega)
          refine qSeq ?_
          refine wSeq ?_
          refine wRegion ?_
          refine rmB rfl rfl rfl rfl rfl ?_
          refine rNil ?_
          refine qSeq ?_
          refine wT rfl ?_
          refine wSeq ?_
          refine wDraw [0, 0, 2, 6, 14, 0, 32, 126, 255, 511, 1023] rfl (by decide +kernel) ?_
          refine dmP rfl rfl rfl rfl rfl ?_
          refine dmP rfl rfl rfl rfl rfl ?_
          refine dnc (v := .ptr _ _ _) rfl rfl rfl rfl rfl rfl ?_
          refine dfa (off := 9) (s := 1) (r := false) rfl rfl rfl (Nat.succ_ne_zero _) rfl rfl rfl ?_
          (apply dlc  rfl rfl; (first | ((simp (disch := omega) only [↓app0, ↓appC, ↓updS, ↓updN, ↓hpS, ↓hpN]) <;> first | rfl | assumption) | assumption | rfl); rfl; rfl; rfl; rfl; rfl; rfl)
          (apply dlr (vs := [.int _ _, .int _ _, .int _ _, .int _ _]) rfl rfl; (first | ((simp (disch := omega) only [↓app0, ↓appC, ↓updS, ↓updN, ↓hpS, ↓hpN]) <;> first | rfl | assumption) | assumption | rfl); rfl; rfl; (exact Nat.le_of_ble_eq_true rfl); rfl; rfl; rfl; rfl)
          refine dbs (es := [[.int _ _, .int _ _, .int _ _, .int _ _]]) rfl rfl rfl rfl (Nat.succ_ne_zero _) (Nat.le_of_ble_eq_true rfl) rfl rfl rfl rfl rfl ?_
          (apply dap (s' := 32) (es := [[.int _ _, .int _ _, .int _ _, .int _ _]]) rfl rfl; (first | ((simp (disch := omega) only [↓app0, ↓appC, ↓updS, ↓updN, ↓hpS, ↓hpN]) <;> first | rfl | assumption) | assumption | rfl); rfl; rfl; (first | rfl | omega | (show _ = (List.map Rp.V rps).length; rw [List.length_map]; omega) | (show _ = (List.map An.V acc).length; rw [List.length_map]; omega)); rfl; rfl; exact (Nat.succ_ne_zero _); (first | rfl | (apply srcView rfl; (first | ((simp (disch := omega) only [↓app0, ↓appC, ↓updS, ↓updN, ↓hpS, ↓hpN]) <;> first | rfl | assumption) | assumption | rfl); (first | exact Nat.le_refl _ | omega); rfl)); (first | rfl | assumption | (focus (simp; done)) | (focus (intro _ hc; rw [List.mem_singleton] at hc; subst hc; rfl)) | (intro _ _; simp_all)); (first | omega | (focus (simp only [List.length_cons, List.length_nil]; omega)) | ((show (_ + 1) * _ ≤ _); omega) | ((show _ + 1 ≤ _); omega)); (first | omega | (focus (simp only [List.length_cons, List.length_nil]; omega)) | ((show (_ + 1) * _ ≤ _); omega) | ((show _ + 1 ≤ _); omega)); rfl; rfl; rfl)
          refine dnc (v := .ptr _ _ _) rfl rfl rfl rfl rfl rfl ?_
          refine dfa (off := 9) (s := 1) (r := false) rfl rfl rfl (Nat.succ_ne_zero _) rfl rfl rfl ?_
          (apply dst (u := .view _ _ _) rfl rfl rfl; (first | ((simp (disch := omega) only [↓app0, ↓appC, ↓updS, ↓updN, ↓hpS, ↓hpN]) <;> first | rfl | assumption) | assumption | rfl); rfl; rfl; rfl; rfl; rfl; (exact Nat.le_of_ble_eq_true rfl); rfl; rfl; rfl)
          refine dNilR 11 [3, 0, 0, 3, 3, 1, 1, 0, 0, 0, 0] [(4, 6)] rfl rfl (by decide +kernel) ?_ ?_
          · (simp [ClearL, ids]; try omega)
          refine qSeq ?_
          refine wRegion ?_
          refine rmP rfl rfl rfl rfl rfl ?_
          refine rmP rfl rfl rfl rfl rfl ?_
          refine rmP rfl rfl rfl rfl rfl ?_
          refine rbd (cs := [.int _ _, .int _ _, .int _ _, .int _ _, .str _]) rfl rfl rfl rfl rfl ?_
          refine rnc (v := .ptr _ _ _) rfl rfl rfl rfl rfl rfl ?_
          refine rfa (off := 2) (s := 1) (r := false) rfl rfl rfl (Nat.succ_ne_zero _) rfl rfl rfl ?_
          (apply rst (u := .bool _) rfl rfl rfl; (first | ((simp (disch := omega) only [↓app0, ↓appC, ↓updS, ↓updN, ↓hpS, ↓hpN]) <;> first | rfl | assumption) | assumption | rfl); rfl; rfl; rfl; rfl; rfl; (exact Nat.le_of_ble_eq_true rfl); rfl; rfl; rfl)
          refine rnc (v := .ptr _ _ _) rfl rfl rfl rfl rfl rfl ?_
          refine rfa (off := 3) (s := 5) (r := true) rfl rfl rfl (Nat.succ_ne_zero _) rfl rfl rfl ?_
          (apply rst (u := .agg [.int _ _, .int _ _, .int _ _, .int _ _, .str _]) rfl rfl rfl; (first | ((simp (disch := omega) only [↓app0, ↓appC, ↓updS, ↓updN, ↓hpS, ↓hpN]) <;> first | rfl | assumption) | assumption | rfl); rfl; rfl; rfl; rfl; rfl; (exact Nat.le_of_ble_eq_true rfl); rfl; rfl; rfl)
          refine rnc (v := .ptr _ _ _) rfl rfl rfl rfl rfl rfl ?_
          refine rfa (off := 8) (s := 1) (r := false) rfl rfl rfl (Nat.succ_ne_zero _) rfl rfl rfl ?_
          (apply rst (u := .nsl) rfl rfl rfl; (first | ((simp (disch := omega) only [↓app0, ↓appC, ↓updS, ↓updN, ↓hpS, ↓hpN]) <;> first | rfl | assumption) | assumption | rfl); rfl; rfl; rfl; rfl; rfl; (exact Nat.le_of_ble_eq_true rfl); rfl; rfl; rfl)
          refine rNil ?_
          refine qSeq ?_
          refine wSeq ?_
          refine wRegion ?_
          refine raI rfl rfl rfl rfl rfl ?_
          refine rNil ?_
          refine qSeq ?_
          refine wRet ?_
          exact finO rfl rfl (leWr (by
            intro j hj
            simp only [List.map_cons, List.map_nil, List.mem_cons, List.not_mem_nil, or_false] at hj
            rcases hj with rfl | rfl | rfl | rfl <;> (simp (disch := omega) only [↓app0, ↓appC, ↓updS, ↓updN]) <;> first | rfl | (exact congrArg (fun z => some (Blk.mk z 4 42)) (by simp only [List.map_append]; rfl))) (fun j hj hn => by
            simp only [List.map_cons, List.map_nil, List.mem_cons, List.not_mem_nil, or_false, not_or] at hn
            simp (disch := omega) only [↓app0, ↓appC, ↓updS, ↓updN])) (Nat.le_refl _)
  · refine rnot (c := false) rfl rfl rfl rfl rfl ?_
    refine raB rfl rfl rfl rfl rfl ?_
    refine rNil ?_
    refine qSeq ?_
    refine wT rfl ?_
    refine wSeq ?_
    exact absurd hr.1 h1_2

end Go.Proofs.YtcafccndgpopkaaDoor
