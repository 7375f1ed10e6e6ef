import Derived.Test.YtnkpjlpappmccaaDoorD13
namespace Go.Proofs.YtnkpjlpappmccaaDoor
open Go.V
set_option linter.unusedVariables false
set_option linter.unusedSimpArgs false
set_option maxRecDepth 20000
set_option maxHeartbeats 4000000


theorem p11U (n : Int) (c : Cl) (s1 s2 : T) (b1 b2 : Bool) (t1 : TW s1 (.sl b1 (c.rps.map Rp.T))) (t2 : TW s2 (.sl b2 (c.acc.map An.T))) (hc : c.OK n) (hL : c.acc.length ≤ 1000) : Pure En 11 [.one (.int .i64 n), .agg (c.U s1 s2)] [.one (.bool true)] :=
  (p11 n c b1 b2 hc hL).weakA (.cons _ _ _ _ (.one _ _ (.refl _)) (.cons _ _ _ _ (.agg _ _ (.cons _ _ _ _ (.refl _) (.cons _ _ _ _ (.refl _) (.cons _ _ _ _ (.refl _) (.cons _ _ _ _ (.refl _) (.cons _ _ _ _ (.refl _) (.cons _ _ _ _ (.refl _) (.cons _ _ _ _ (.refl _) (.cons _ _ _ _ (.refl _) (.cons _ _ _ _ t1 (.cons _ _ _ _ t2 .nil))))))))))) .nil))
theorem twN {α : Type} (f : α → List T) {L : List α} (h : L = []) : TW .nsl (.sl false (L.map f)) := by subst h; exact .nil

theorem p7Nok (n : Int) (c : Cl) (kd le : Int) (nm : ByteArray) (hc : c.OK n) (hr : c.rps = []) (ha : c.acc = []) (hL : c.acc.length ≤ 1000) (hnm : nm.size ≤ 65536) (hb : c.bz = false) (hst : 0 ≤ c.st ∧ c.st < 4000) (hrq : (Rq.mk c.id (c.st + 1) kd le nm).OK) :
    Pure En 7 [.one (.int .i64 n), .agg (c.U .nsl (.nsl)), .one (.int .i64 kd), .one (.str nm), .one (.int .i64 le)] [.agg ((Cl.mk c.id (c.st + 1) true ⟨c.id, c.st + 1, kd, le, nm⟩ c.rps c.acc).U .nsl (.nsl)), .one (.int .i64 0)] := by
  refine Pure.of_wp Tryd.func7 rfl (Nat.le_of_ble_eq_true rfl) ?_
  refine wSeq ?_
  refine wRegion ?_
  refine rbx (u := .agg [.int _ _, .int _ _, .bool _, .int _ _, .int _ _, .int _ _, .int _ _, .str _, _, _]) rfl rfl rfl rfl rfl rfl rfl ?_
  refine ral rfl rfl rfl rfl rfl rfl ?_
  refine raI rfl rfl rfl rfl rfl ?_
  refine rNil ?_
  refine qSeq ?_
  refine wSeq ?_
  refine wSeq ?_
  refine wRegion ?_
  refine rmS rfl rfl rfl rfl rfl ?_
  refine rbs (es := [[.str _]]) rfl rfl rfl rfl (Nat.succ_ne_zero _) (Nat.le_of_ble_eq_true rfl) rfl rfl rfl rfl rfl ?_
  apply rclSP [2] (p15 nm) rfl rfl rfl
  · exact SnapL.cons _ _ _ _ (.one _ _ (snapView (b := ⟨[[.str nm]], 1, 9⟩) [[.str nm]] (List.mem_singleton.2 rfl) rfl rfl rfl)) SnapL.nil
  · rfl
  · rfl
  · rfl
  all_goals intro h1_2
  · refine rNil ?_
    refine qSeq ?_
    refine wT rfl ?_
    refine wSeq ?_
    exact absurd h1_2 (by omega)
  · refine rNil ?_
    refine qSeq ?_
    refine wF rfl ?_
    refine wSkip ?_
    refine qSeq ?_
    refine wSeq ?_
    refine wSeq ?_
    refine wRegion ?_
    refine rmI rfl rfl rfl rfl rfl ?_
    (apply rlr (vs := [.int _ _, .int _ _, .bool _, .int _ _, .int _ _, .int _ _, .int _ _, .str _, _, _]) rfl rfl; (first | ((simp (disch := omega) only [↓app0, ↓appC, ↓updS, ↓updN, ↓hpS, ↓hpN]) <;> first | rfl | assumption) | assumption | rfl); rfl; rfl; (exact Nat.le_of_ble_eq_true rfl); rfl; rfl; rfl; rfl)
    refine rcl (p11U n c .nsl (.nsl) false false (twN Rp.T hr) (twN An.T ha) hc hL) rfl rfl rfl rfl rfl rfl ?_
    refine rnot (c := true) rfl rfl rfl rfl rfl ?_
    refine rNil ?_
    refine qSeq ?_
    refine wF rfl ?_
    refine wSkip ?_
    refine qSeq ?_
    refine wSeq ?_
    refine wRegion ?_
    (apply rlr (vs := [.int _ _, .int _ _, .bool _, .int _ _, .int _ _, .int _ _, .int _ _, .str _, _, _]) rfl rfl; (first | ((simp (disch := omega) only [↓app0, ↓appC, ↓updS, ↓updN, ↓hpS, ↓hpN]) <;> first | rfl | assumption) | assumption | rfl); rfl; rfl; (exact Nat.le_of_ble_eq_true rfl); rfl; rfl; rfl; rfl)
    refine rop (o16NN c (by rw [hr]; exact Nat.zero_le _) (by omega)) rfl rfl rfl rfl rfl rfl ?_
    refine ral rfl rfl rfl rfl rfl rfl ?_
    (apply rst (u := .agg [.int _ _, .int _ _, .bool _, .int _ _, .int _ _, .int _ _, .int _ _, .str _, _, _]) rfl rfl rfl; (first | ((simp (disch := omega) only [↓app0, ↓appC, ↓updS, ↓updN, ↓hpS, ↓hpN]) <;> first | rfl | assumption) | assumption | rfl); rfl; rfl; rfl; rfl; rfl; (exact Nat.le_of_ble_eq_true rfl); rfl; rfl; rfl)
    refine rNil ?_
    refine qSeq ?_
    refine wSeq ?_
    refine wRegion ?_
    refine rmI rfl rfl rfl rfl rfl ?_
    refine rmS rfl rfl rfl rfl rfl ?_
    refine rmI rfl rfl rfl rfl rfl ?_
    refine rop (o17ok c hb kd le nm .nsl (.nsl) hst hrq (id := 5) ?_ ?_) rfl rfl rfl rfl rfl rfl ?_
    · (first | omega | (first | ((simp (disch := omega) only [↓app0, ↓appC, ↓updS, ↓updN, ↓hpS, ↓hpN]) <;> first | rfl | assumption) | assumption | rfl) | (first | omega | assumption | (focus (simp; omega))))
    · (first | omega | (first | ((simp (disch := omega) only [↓app0, ↓appC, ↓updS, ↓updN, ↓hpS, ↓hpN]) <;> first | rfl | assumption) | assumption | rfl) | (first | omega | assumption | (focus (simp; omega))))
    refine raI rfl rfl rfl rfl rfl ?_
    refine rNil ?_
    refine qSeq ?_
    refine wSeq ?_
    refine wRegion ?_
    (apply rlr (vs := [.int _ _, .int _ _, .bool _, .int _ _, .int _ _, .int _ _, .int _ _, .str _, _, _]) rfl rfl; (first | ((simp (disch := omega) only [↓app0, ↓appC, ↓updS, ↓updN, ↓hpS, ↓hpN]) <;> first | rfl | assumption) | assumption | rfl); rfl; rfl; (exact Nat.le_of_ble_eq_true rfl); rfl; rfl; rfl; rfl)
    refine rmI rfl rfl rfl rfl rfl ?_
    (apply rst (u := .agg [.int _ _, .int _ _, .bool _, .int _ _, .int _ _, .int _ _, .int _ _, .str _, _, _]) rfl rfl rfl; (first | ((simp (disch := omega) only [↓app0, ↓appC, ↓updS, ↓updN, ↓hpS, ↓hpN]) <;> first | rfl | assumption) | assumption | rfl); rfl; rfl; rfl; rfl; rfl; (exact Nat.le_of_ble_eq_true rfl); rfl; rfl; rfl)
    refine raI rfl rfl rfl rfl rfl ?_
    refine rNil ?_
    refine qSeq ?_
    refine wRet ?_
    exact fin rfl rfl

theorem p7Nbusy (n : Int) (c : Cl) (kd le : Int) (nm : ByteArray) (hc : c.OK n) (hr : c.rps = []) (ha : c.acc = []) (hL : c.acc.length ≤ 1000) (hnm : nm.size ≤ 65536) (hb : c.bz = true) (hst : 0 ≤ c.st ∧ c.st ≤ 65535) :
    Pure En 7 [.one (.int .i64 n), .agg (c.U .nsl (.nsl)), .one (.int .i64 kd), .one (.str nm), .one (.int .i64 le)] [.agg (c.U .nsl (.nsl)), .one (.int .i64 15)] := by
  refine Pure.of_wp Tryd.func7 rfl (Nat.le_of_ble_eq_true rfl) ?_
  refine wSeq ?_
  refine wRegion ?_
  refine rbx (u := .agg [.int _ _, .int _ _, .bool _, .int _ _, .int _ _, .int _ _, .int _ _, .str _, _, _]) rfl rfl rfl rfl rfl rfl rfl ?_
  refine ral rfl rfl rfl rfl rfl rfl ?_
  refine raI rfl rfl rfl rfl rfl ?_
  refine rNil ?_
  refine qSeq ?_
  refine wSeq ?_
  refine wSeq ?_
  refine wRegion ?_
  refine rmS rfl rfl rfl rfl rfl ?_
  refine rbs (es := [[.str _]]) rfl rfl rfl rfl (Nat.succ_ne_zero _) (Nat.le_of_ble_eq_true rfl) rfl rfl rfl rfl rfl ?_
  apply rclSP [2] (p15 nm) rfl rfl rfl
  · exact SnapL.cons _ _ _ _ (.one _ _ (snapView (b := ⟨[[.str nm]], 1, 9⟩) [[.str nm]] (List.mem_singleton.2 rfl) rfl rfl rfl)) SnapL.nil
  · rfl
  · rfl
  · rfl
  all_goals intro h1_2
  · refine rNil ?_
    refine qSeq ?_
    refine wT rfl ?_
    refine wSeq ?_
    exact absurd h1_2 (by omega)
  · refine rNil ?_
    refine qSeq ?_
    refine wF rfl ?_
    refine wSkip ?_
    refine qSeq ?_
    refine wSeq ?_
    refine wSeq ?_
    refine wRegion ?_
    refine rmI rfl rfl rfl rfl rfl ?_
    (apply rlr (vs := [.int _ _, .int _ _, .bool _, .int _ _, .int _ _, .int _ _, .int _ _, .str _, _, _]) rfl rfl; (first | ((simp (disch := omega) only [↓app0, ↓appC, ↓updS, ↓updN, ↓hpS, ↓hpN]) <;> first | rfl | assumption) | assumption | rfl); rfl; rfl; (exact Nat.le_of_ble_eq_true rfl); rfl; rfl; rfl; rfl)
    refine rcl (p11U n c .nsl (.nsl) false false (twN Rp.T hr) (twN An.T ha) hc hL) rfl rfl rfl rfl rfl rfl ?_
    refine rnot (c := true) rfl rfl rfl rfl rfl ?_
    refine rNil ?_
    refine qSeq ?_
    refine wF rfl ?_
    refine wSkip ?_
    refine qSeq ?_
    refine wSeq ?_
    refine wRegion ?_
    (apply rlr (vs := [.int _ _, .int _ _, .bool _, .int _ _, .int _ _, .int _ _, .int _ _, .str _, _, _]) rfl rfl; (first | ((simp (disch := omega) only [↓app0, ↓appC, ↓updS, ↓updN, ↓hpS, ↓hpN]) <;> first | rfl | assumption) | assumption | rfl); rfl; rfl; (exact Nat.le_of_ble_eq_true rfl); rfl; rfl; rfl; rfl)
    refine rop (o16NN c (by rw [hr]; exact Nat.zero_le _) (by omega)) rfl rfl rfl rfl rfl rfl ?_
    refine ral rfl rfl rfl rfl rfl rfl ?_
    (apply rst (u := .agg [.int _ _, .int _ _, .bool _, .int _ _, .int _ _, .int _ _, .int _ _, .str _, _, _]) rfl rfl rfl; (first | ((simp (disch := omega) only [↓app0, ↓appC, ↓updS, ↓updN, ↓hpS, ↓hpN]) <;> first | rfl | assumption) | assumption | rfl); rfl; rfl; rfl; rfl; rfl; (exact Nat.le_of_ble_eq_true rfl); rfl; rfl; rfl)
    refine rNil ?_
    refine qSeq ?_
    refine wSeq ?_
    refine wRegion ?_
    refine rmI rfl rfl rfl rfl rfl ?_
    refine rmS rfl rfl rfl rfl rfl ?_
    refine rmI rfl rfl rfl rfl rfl ?_
    refine rop (o17busy c hb kd le nm .nsl (.nsl) hst (id := 5) ?_ ?_) rfl rfl rfl rfl rfl rfl ?_
    · (first | omega | (first | ((simp (disch := omega) only [↓app0, ↓appC, ↓updS, ↓updN, ↓hpS, ↓hpN]) <;> first | rfl | assumption) | assumption | rfl) | (first | omega | assumption | (focus (simp; omega))))
    · (first | omega | (first | ((simp (disch := omega) only [↓app0, ↓appC, ↓updS, ↓updN, ↓hpS, ↓hpN]) <;> first | rfl | assumption) | assumption | rfl) | (first | omega | assumption | (focus (simp; omega))))
    refine raI rfl rfl rfl rfl rfl ?_
    refine rNil ?_
    refine qSeq ?_
    refine wSeq ?_
    refine wRegion ?_
    (apply rlr (vs := [.int _ _, .int _ _, .bool _, .int _ _, .int _ _, .int _ _, .int _ _, .str _, _, _]) rfl rfl; (first | ((simp (disch := omega) only [↓app0, ↓appC, ↓updS, ↓updN, ↓hpS, ↓hpN]) <;> first | rfl | assumption) | assumption | rfl); rfl; rfl; (exact Nat.le_of_ble_eq_true rfl); rfl; rfl; rfl; rfl)
    refine rmI rfl rfl rfl rfl rfl ?_
    (apply rst (u := .agg [.int _ _, .int _ _, .bool _, .int _ _, .int _ _, .int _ _, .int _ _, .str _, _, _]) rfl rfl rfl; (first | ((simp (disch := omega) only [↓app0, ↓appC, ↓updS, ↓updN, ↓hpS, ↓hpN]) <;> first | rfl | assumption) | assumption | rfl); rfl; rfl; rfl; rfl; rfl; (exact Nat.le_of_ble_eq_true rfl); rfl; rfl; rfl)
    refine raI rfl rfl rfl rfl rfl ?_
    refine rNil ?_
    refine qSeq ?_
    refine wRet ?_
    exact fin rfl rfl

theorem p7Vok (n : Int) (c : Cl) (kd le : Int) (nm : ByteArray) (hc : c.OK n) (hr : c.rps = []) (hL : c.acc.length ≤ 1000) (hnm : nm.size ≤ 65536) (hb : c.bz = false) (hst : 0 ≤ c.st ∧ c.st < 4000) (hrq : (Rq.mk c.id (c.st + 1) kd le nm).OK) :
    Pure En 7 [.one (.int .i64 n), .agg (c.U .nsl (.sl true (c.acc.map An.T))), .one (.int .i64 kd), .one (.str nm), .one (.int .i64 le)] [.agg ((Cl.mk c.id (c.st + 1) true ⟨c.id, c.st + 1, kd, le, nm⟩ c.rps c.acc).U .nsl (.sl true (c.acc.map An.T))), .one (.int .i64 0)] := by
  refine Pure.of_wp Tryd.func7 rfl (Nat.le_of_ble_eq_true rfl) ?_
  refine wSeq ?_
  refine wRegion ?_
  refine rbx (u := .agg [.int _ _, .int _ _, .bool _, .int _ _, .int _ _, .int _ _, .int _ _, .str _, _, _]) rfl rfl rfl rfl rfl rfl rfl ?_
  refine ral rfl rfl rfl rfl rfl rfl ?_
  refine raI rfl rfl rfl rfl rfl ?_
  refine rNil ?_
  refine qSeq ?_
  refine wSeq ?_
  refine wSeq ?_
  refine wRegion ?_
  refine rmS rfl rfl rfl rfl rfl ?_
  refine rbs (es := [[.str _]]) rfl rfl rfl rfl (Nat.succ_ne_zero _) (Nat.le_of_ble_eq_true rfl) rfl rfl rfl rfl rfl ?_
  apply rclSP [2] (p15 nm) rfl rfl rfl
  · exact SnapL.cons _ _ _ _ (.one _ _ (snapView (b := ⟨[[.str nm]], 1, 9⟩) [[.str nm]] (List.mem_singleton.2 rfl) rfl rfl rfl)) SnapL.nil
  · rfl
  · rfl
  · rfl
  all_goals intro h1_2
  · refine rNil ?_
    refine qSeq ?_
    refine wT rfl ?_
    refine wSeq ?_
    exact absurd h1_2 (by omega)
  · refine rNil ?_
    refine qSeq ?_
    refine wF rfl ?_
    refine wSkip ?_
    refine qSeq ?_
    refine wSeq ?_
    refine wSeq ?_
    refine wRegion ?_
    refine rmI rfl rfl rfl rfl rfl ?_
    (apply rlr (vs := [.int _ _, .int _ _, .bool _, .int _ _, .int _ _, .int _ _, .int _ _, .str _, _, _]) rfl rfl; (first | ((simp (disch := omega) only [↓app0, ↓appC, ↓updS, ↓updN, ↓hpS, ↓hpN]) <;> first | rfl | assumption) | assumption | rfl); rfl; rfl; (exact Nat.le_of_ble_eq_true rfl); rfl; rfl; rfl; rfl)
    refine rcl (p11U n c .nsl (.sl true (c.acc.map An.T)) false true (twN Rp.T hr) (.refl _) hc hL) rfl rfl rfl rfl rfl rfl ?_
    refine rnot (c := true) rfl rfl rfl rfl rfl ?_
    refine rNil ?_
    refine qSeq ?_
    refine wF rfl ?_
    refine wSkip ?_
    refine qSeq ?_
    refine wSeq ?_
    refine wRegion ?_
    (apply rlr (vs := [.int _ _, .int _ _, .bool _, .int _ _, .int _ _, .int _ _, .int _ _, .str _, _, _]) rfl rfl; (first | ((simp (disch := omega) only [↓app0, ↓appC, ↓updS, ↓updN, ↓hpS, ↓hpN]) <;> first | rfl | assumption) | assumption | rfl); rfl; rfl; (exact Nat.le_of_ble_eq_true rfl); rfl; rfl; rfl; rfl)
    refine rop (o16NV c (by rw [hr]; exact Nat.zero_le _) (by omega)) rfl rfl rfl rfl rfl rfl ?_
    refine ral rfl rfl rfl rfl rfl rfl ?_
    (apply rst (u := .agg [.int _ _, .int _ _, .bool _, .int _ _, .int _ _, .int _ _, .int _ _, .str _, _, _]) rfl rfl rfl; (first | ((simp (disch := omega) only [↓app0, ↓appC, ↓updS, ↓updN, ↓hpS, ↓hpN]) <;> first | rfl | assumption) | assumption | rfl); rfl; rfl; rfl; rfl; rfl; (exact Nat.le_of_ble_eq_true rfl); rfl; rfl; rfl)
    refine rNil ?_
    refine qSeq ?_
    refine wSeq ?_
    refine wRegion ?_
    refine rmI rfl rfl rfl rfl rfl ?_
    refine rmS rfl rfl rfl rfl rfl ?_
    refine rmI rfl rfl rfl rfl rfl ?_
    refine rop (o17ok c hb kd le nm .nsl (.view 6 0 c.acc.length) hst hrq (id := 7) ?_ ?_) rfl rfl rfl rfl rfl rfl ?_
    · (first | omega | (first | ((simp (disch := omega) only [↓app0, ↓appC, ↓updS, ↓updN, ↓hpS, ↓hpN]) <;> first | rfl | assumption) | assumption | rfl) | (first | omega | assumption | (focus (simp; omega))))
    · (first | omega | (first | ((simp (disch := omega) only [↓app0, ↓appC, ↓updS, ↓updN, ↓hpS, ↓hpN]) <;> first | rfl | assumption) | assumption | rfl) | (first | omega | assumption | (focus (simp; omega))))
    refine raI rfl rfl rfl rfl rfl ?_
    refine rNil ?_
    refine qSeq ?_
    refine wSeq ?_
    refine wRegion ?_
    (apply rlr (vs := [.int _ _, .int _ _, .bool _, .int _ _, .int _ _, .int _ _, .int _ _, .str _, _, _]) rfl rfl; (first | ((simp (disch := omega) only [↓app0, ↓appC, ↓updS, ↓updN, ↓hpS, ↓hpN]) <;> first | rfl | assumption) | assumption | rfl); rfl; rfl; (exact Nat.le_of_ble_eq_true rfl); rfl; rfl; rfl; rfl)
    refine rmI rfl rfl rfl rfl rfl ?_
    (apply rst (u := .agg [.int _ _, .int _ _, .bool _, .int _ _, .int _ _, .int _ _, .int _ _, .str _, _, _]) rfl rfl rfl; (first | ((simp (disch := omega) only [↓app0, ↓appC, ↓updS, ↓updN, ↓hpS, ↓hpN]) <;> first | rfl | assumption) | assumption | rfl); rfl; rfl; rfl; rfl; rfl; (exact Nat.le_of_ble_eq_true rfl); rfl; rfl; rfl)
    refine raI rfl rfl rfl rfl rfl ?_
    refine rNil ?_
    refine qSeq ?_
    refine wRet ?_
    exact finS [6] rfl (SnapL.cons _ _ _ _ (SnapC.agg (.cons _ _ _ _ (.int _ _) (.cons _ _ _ _ (.int _ _) (.cons _ _ _ _ (.bool _) (.cons _ _ _ _ (.int _ _) (.cons _ _ _ _ (.int _ _) (.cons _ _ _ _ (.int _ _) (.cons _ _ _ _ (.int _ _) (.cons _ _ _ _ (.str _) (.cons _ _ _ _ (.nsl) (.cons _ _ _ _ (snapView (b := ⟨(c.acc).map An.V, 4, 35⟩) ((c.acc).map An.T) (List.mem_singleton.2 rfl) (by ((simp (disch := omega) only [↓app0, ↓appC, ↓updS, ↓updN]) <;> first | rfl | assumption)) (rowsAn2 _).symm (by simp)) .nil))))))))))) (SnapL.cons _ _ _ _ (.one _ _ (.int _ _)) SnapL.nil))

theorem p7Vbusy (n : Int) (c : Cl) (kd le : Int) (nm : ByteArray) (hc : c.OK n) (hr : c.rps = []) (hL : c.acc.length ≤ 1000) (hnm : nm.size ≤ 65536) (hb : c.bz = true) (hst : 0 ≤ c.st ∧ c.st ≤ 65535) :
    Pure En 7 [.one (.int .i64 n), .agg (c.U .nsl (.sl true (c.acc.map An.T))), .one (.int .i64 kd), .one (.str nm), .one (.int .i64 le)] [.agg (c.U .nsl (.sl true (c.acc.map An.T))), .one (.int .i64 15)] := by
  refine Pure.of_wp Tryd.func7 rfl (Nat.le_of_ble_eq_true rfl) ?_
  refine wSeq ?_
  refine wRegion ?_
  refine rbx (u := .agg [.int _ _, .int _ _, .bool _, .int _ _, .int _ _, .int _ _, .int _ _, .str _, _, _]) rfl rfl rfl rfl rfl rfl rfl ?_
  refine ral rfl rfl rfl rfl rfl rfl ?_
  refine raI rfl rfl rfl rfl rfl ?_
  refine rNil ?_
  refine qSeq ?_
  refine wSeq ?_
  refine wSeq ?_
  refine wRegion ?_
  refine rmS rfl rfl rfl rfl rfl ?_
  refine rbs (es := [[.str _]]) rfl rfl rfl rfl (Nat.succ_ne_zero _) (Nat.le_of_ble_eq_true rfl) rfl rfl rfl rfl rfl ?_
  apply rclSP [2] (p15 nm) rfl rfl rfl
  · exact SnapL.cons _ _ _ _ (.one _ _ (snapView (b := ⟨[[.str nm]], 1, 9⟩) [[.str nm]] (List.mem_singleton.2 rfl) rfl rfl rfl)) SnapL.nil
  · rfl
  · rfl
  · rfl
  all_goals intro h1_2
  · refine rNil ?_
    refine qSeq ?_
    refine wT rfl ?_
    refine wSeq ?_
    exact absurd h1_2 (by omega)
  · refine rNil ?_
    refine qSeq ?_
    refine wF rfl ?_
    refine wSkip ?_
    refine qSeq ?_
    refine wSeq ?_
    refine wSeq ?_
    refine wRegion ?_
    refine rmI rfl rfl rfl rfl rfl ?_
    (apply rlr (vs := [.int _ _, .int _ _, .bool _, .int _ _, .int _ _, .int _ _, .int _ _, .str _, _, _]) rfl rfl; (first | ((simp (disch := omega) only [↓app0, ↓appC, ↓updS, ↓updN, ↓hpS, ↓hpN]) <;> first | rfl | assumption) | assumption | rfl); rfl; rfl; (exact Nat.le_of_ble_eq_true rfl); rfl; rfl; rfl; rfl)
    refine rcl (p11U n c .nsl (.sl true (c.acc.map An.T)) false true (twN Rp.T hr) (.refl _) hc hL) rfl rfl rfl rfl rfl rfl ?_
    refine rnot (c := true) rfl rfl rfl rfl rfl ?_
    refine rNil ?_
    refine qSeq ?_
    refine wF rfl ?_
    refine wSkip ?_
    refine qSeq ?_
    refine wSeq ?_
    refine wRegion ?_
    (apply rlr (vs := [.int _ _, .int _ _, .bool _, .int _ _, .int _ _, .int _ _, .int _ _, .str _, _, _]) rfl rfl; (first | ((simp (disch := omega) only [↓app0, ↓appC, ↓updS, ↓updN, ↓hpS, ↓hpN]) <;> first | rfl | assumption) | assumption | rfl); rfl; rfl; (exact Nat.le_of_ble_eq_true rfl); rfl; rfl; rfl; rfl)
    refine rop (o16NV c (by rw [hr]; exact Nat.zero_le _) (by omega)) rfl rfl rfl rfl rfl rfl ?_
    refine ral rfl rfl rfl rfl rfl rfl ?_
    (apply rst (u := .agg [.int _ _, .int _ _, .bool _, .int _ _, .int _ _, .int _ _, .int _ _, .str _, _, _]) rfl rfl rfl; (first | ((simp (disch := omega) only [↓app0, ↓appC, ↓updS, ↓updN, ↓hpS, ↓hpN]) <;> first | rfl | assumption) | assumption | rfl); rfl; rfl; rfl; rfl; rfl; (exact Nat.le_of_ble_eq_true rfl); rfl; rfl; rfl)
    refine rNil ?_
    refine qSeq ?_
    refine wSeq ?_
    refine wRegion ?_
    refine rmI rfl rfl rfl rfl rfl ?_
    refine rmS rfl rfl rfl rfl rfl ?_
    refine rmI rfl rfl rfl rfl rfl ?_
    refine rop (o17busy c hb kd le nm .nsl (.view 6 0 c.acc.length) hst (id := 7) ?_ ?_) rfl rfl rfl rfl rfl rfl ?_
    · (first | omega | (first | ((simp (disch := omega) only [↓app0, ↓appC, ↓updS, ↓updN, ↓hpS, ↓hpN]) <;> first | rfl | assumption) | assumption | rfl) | (first | omega | assumption | (focus (simp; omega))))
    · (first | omega | (first | ((simp (disch := omega) only [↓app0, ↓appC, ↓updS, ↓updN, ↓hpS, ↓hpN]) <;> first | rfl | assumption) | assumption | rfl) | (first | omega | assumption | (focus (simp; omega))))
    refine raI rfl rfl rfl rfl rfl ?_
    refine rNil ?_
    refine qSeq ?_
    refine wSeq ?_
    refine wRegion ?_
    (apply rlr (vs := [.int _ _, .int _ _, .bool _, .int _ _, .int _ _, .int _ _, .int _ _, .str _, _, _]) rfl rfl; (first | ((simp (disch := omega) only [↓app0, ↓appC, ↓updS, ↓updN, ↓hpS, ↓hpN]) <;> first | rfl | assumption) | assumption | rfl); rfl; rfl; (exact Nat.le_of_ble_eq_true rfl); rfl; rfl; rfl; rfl)
    refine rmI rfl rfl rfl rfl rfl ?_
    (apply rst (u := .agg [.int _ _, .int _ _, .bool _, .int _ _, .int _ _, .int _ _, .int _ _, .str _, _, _]) rfl rfl rfl; (first | ((simp (disch := omega) only [↓app0, ↓appC, ↓updS, ↓updN, ↓hpS, ↓hpN]) <;> first | rfl | assumption) | assumption | rfl); rfl; rfl; rfl; rfl; rfl; (exact Nat.le_of_ble_eq_true rfl); rfl; rfl; rfl)
    refine raI rfl rfl rfl rfl rfl ?_
    refine rNil ?_
    refine qSeq ?_
    refine wRet ?_
    exact finS [6] rfl (SnapL.cons _ _ _ _ (SnapC.agg (.cons _ _ _ _ (.int _ _) (.cons _ _ _ _ (.int _ _) (.cons _ _ _ _ (.bool _) (.cons _ _ _ _ (.int _ _) (.cons _ _ _ _ (.int _ _) (.cons _ _ _ _ (.int _ _) (.cons _ _ _ _ (.int _ _) (.cons _ _ _ _ (.str _) (.cons _ _ _ _ (.nsl) (.cons _ _ _ _ (snapView (b := ⟨(c.acc).map An.V, 4, 35⟩) ((c.acc).map An.T) (List.mem_singleton.2 rfl) (by ((simp (disch := omega) only [↓app0, ↓appC, ↓updS, ↓updN]) <;> first | rfl | assumption)) (rowsAn2 _).symm (by simp)) .nil))))))))))) (SnapL.cons _ _ _ _ (.one _ _ (.int _ _)) SnapL.nil))

theorem p10NNu (n : Int) (c : Cl) (r : Rp) (hc : c.OK n) (hb : c.bz = true) (hr : r.OK n ∧ r.cl = c.id ∧ r.st = c.st) (hl : c.rps.length < 40) (hL : c.acc.length ≤ 1000) (hr0 : c.rps = []) (ha : c.acc = []) (hd : dec n c.id c.st (c.rps ++ [r]) = none) :
    Pure En 10 [.one (.int .i64 n), .agg (c.U (.nsl) (.nsl)), .agg r.T] [.agg ((Cl.mk c.id c.st c.bz c.rq (c.rps ++ [r]) c.acc).U (.sl true ((c.rps ++ [r]).map Rp.T)) (.nsl)), .one (.int .i64 0)] := by
  refine Pure.of_wp Tryd.func10 rfl (Nat.le_of_ble_eq_true rfl) ?_
  refine wSeq ?_
  refine wRegion ?_
  refine rbx (u := .agg [.int _ _, .int _ _, .bool _, .int _ _, .int _ _, .int _ _, .int _ _, .str _, _, _]) rfl rfl rfl rfl rfl rfl rfl ?_
  refine rbx (u := .agg [.int _ _, .int _ _, .int _ _, .int _ _, .int _ _, .int _ _, .int _ _, .str _]) rfl rfl rfl rfl rfl rfl rfl ?_
  refine ral rfl rfl rfl rfl rfl rfl ?_
  refine raI rfl rfl rfl rfl rfl ?_
  refine rNil ?_
  refine qSeq ?_
  refine wSeq ?_
  refine wSeq ?_
  refine wRegion ?_
  refine rmI rfl rfl rfl rfl rfl ?_
  (apply rlr (vs := [.int _ _, .int _ _, .bool _, .int _ _, .int _ _, .int _ _, .int _ _, .str _, _, _]) rfl rfl; (first | ((simp (disch := omega) only [↓app0, ↓appC, ↓updS, ↓updN, ↓hpS, ↓hpN]) <;> first | rfl | assumption) | assumption | rfl); rfl; rfl; (exact Nat.le_of_ble_eq_true rfl); rfl; rfl; rfl; rfl)
  refine rcl (p11U n c (.nsl) (.nsl) false false (twN Rp.T hr0) (twN An.T ha) hc hL) rfl rfl rfl rfl rfl rfl ?_
  refine rnot (c := true) rfl rfl rfl rfl rfl ?_
  refine rNil ?_
  refine qSeq ?_
  refine wF rfl ?_
  refine wSkip ?_
  refine qSeq ?_
  refine wSeq ?_
  refine wRegion ?_
  (apply rlr (vs := [.int _ _, .int _ _, .bool _, .int _ _, .int _ _, .int _ _, .int _ _, .str _, _, _]) rfl rfl; (first | ((simp (disch := omega) only [↓app0, ↓appC, ↓updS, ↓updN, ↓hpS, ↓hpN]) <;> first | rfl | assumption) | assumption | rfl); rfl; rfl; (exact Nat.le_of_ble_eq_true rfl); rfl; rfl; rfl; rfl)
  refine rop (o16NN c (by omega) (by omega)) rfl rfl rfl rfl rfl rfl ?_
  refine ral rfl rfl rfl rfl rfl rfl ?_
  (apply rst (u := .agg [.int _ _, .int _ _, .bool _, .int _ _, .int _ _, .int _ _, .int _ _, .str _, _, _]) rfl rfl rfl; (first | ((simp (disch := omega) only [↓app0, ↓appC, ↓updS, ↓updN, ↓hpS, ↓hpN]) <;> first | rfl | assumption) | assumption | rfl); rfl; rfl; rfl; rfl; rfl; (exact Nat.le_of_ble_eq_true rfl); rfl; rfl; rfl)
  refine rNil ?_
  refine qSeq ?_
  refine wSeq ?_
  refine wRegion ?_
  refine rmI rfl rfl rfl rfl rfl ?_
  (apply rlr (vs := [.int _ _, .int _ _, .int _ _, .int _ _, .int _ _, .int _ _, .int _ _, .str _]) rfl rfl; (first | ((simp (disch := omega) only [↓app0, ↓appC, ↓updS, ↓updN, ↓hpS, ↓hpN]) <;> first | rfl | assumption) | assumption | rfl); rfl; rfl; (exact Nat.le_of_ble_eq_true rfl); rfl; rfl; rfl; rfl)
  refine rop (o21NNu n c r hb hr hl hL hd (id := 5) ?_ ?_ hr0) rfl rfl rfl rfl rfl rfl ?_
  · (first | omega | (first | ((simp (disch := omega) only [↓app0, ↓appC, ↓updS, ↓updN, ↓hpS, ↓hpN]) <;> first | rfl | assumption) | assumption | rfl) | (first | omega | assumption | (focus (simp; omega))))
  · (first | omega | (first | ((simp (disch := omega) only [↓app0, ↓appC, ↓updS, ↓updN, ↓hpS, ↓hpN]) <;> first | rfl | assumption) | assumption | rfl) | (first | omega | assumption | (focus (simp; omega))))
  refine raI rfl rfl rfl rfl rfl ?_
  refine rNil ?_
  refine qSeq ?_
  refine wSeq ?_
  refine wRegion ?_
  (apply rlr (vs := [.int _ _, .int _ _, .bool _, .int _ _, .int _ _, .int _ _, .int _ _, .str _, _, _]) rfl rfl; (first | ((simp (disch := omega) only [↓app0, ↓appC, ↓updS, ↓updN, ↓hpS, ↓hpN]) <;> first | rfl | assumption) | assumption | rfl); rfl; rfl; (exact Nat.le_of_ble_eq_true rfl); rfl; rfl; rfl; rfl)
  refine rmI rfl rfl rfl rfl rfl ?_
  (apply rst (u := .agg [.int _ _, .int _ _, .bool _, .int _ _, .int _ _, .int _ _, .int _ _, .str _, _, _]) rfl rfl rfl; (first | ((simp (disch := omega) only [↓app0, ↓appC, ↓updS, ↓updN, ↓hpS, ↓hpN]) <;> first | rfl | assumption) | assumption | rfl); rfl; rfl; rfl; rfl; rfl; (exact Nat.le_of_ble_eq_true rfl); rfl; rfl; rfl)
  refine raI rfl rfl rfl rfl rfl ?_
  refine rNil ?_
  refine qSeq ?_
  refine wRet ?_
  exact finS [8] rfl (SnapL.cons _ _ _ _ (SnapC.agg (.cons _ _ _ _ (.int _ _) (.cons _ _ _ _ (.int _ _) (.cons _ _ _ _ (.bool _) (.cons _ _ _ _ (.int _ _) (.cons _ _ _ _ (.int _ _) (.cons _ _ _ _ (.int _ _) (.cons _ _ _ _ (.int _ _) (.cons _ _ _ _ (.str _) (.cons _ _ _ _ (snapView (b := ⟨(c.rps ++ [r]).map Rp.V, 8, 39⟩) ((c.rps ++ [r]).map Rp.T) (by simp) (by ((simp (disch := omega) only [↓app0, ↓appC, ↓updS, ↓updN]) <;> first | rfl | assumption)) (rowsRp2 _).symm (by rw [hr0]; rfl)) (.cons _ _ _ _ (.nsl) .nil))))))))))) (SnapL.cons _ _ _ _ (.one _ _ (.int _ _)) SnapL.nil))

theorem p10NNd (n : Int) (c : Cl) (r : Rp) (hc : c.OK n) (hb : c.bz = true) (hr : r.OK n ∧ r.cl = c.id ∧ r.st = c.st) (hl : c.rps.length < 40) (hL : c.acc.length ≤ 1000) (hr0 : c.rps = []) (ha : c.acc = []) (a : An) (hd : dec n c.id c.st (c.rps ++ [r]) = some a) :
    Pure En 10 [.one (.int .i64 n), .agg (c.U (.nsl) (.nsl)), .agg r.T] [.agg ((Cl.mk c.id c.st false Rq0 [] (c.acc ++ [a])).U .nsl (.sl true ((c.acc ++ [a]).map An.T))), .one (.int .i64 0)] := by
  refine Pure.of_wp Tryd.func10 rfl (Nat.le_of_ble_eq_true rfl) ?_
  refine wSeq ?_
  refine wRegion ?_
  refine rbx (u := .agg [.int _ _, .int _ _, .bool _, .int _ _, .int _ _, .int _ _, .int _ _, .str _, _, _]) rfl rfl rfl rfl rfl rfl rfl ?_
  refine rbx (u := .agg [.int _ _, .int _ _, .int _ _, .int _ _, .int _ _, .int _ _, .int _ _, .str _]) rfl rfl rfl rfl rfl rfl rfl ?_
  refine ral rfl rfl rfl rfl rfl rfl ?_
  refine raI rfl rfl rfl rfl rfl ?_
  refine rNil ?_
  refine qSeq ?_
  refine wSeq ?_
  refine wSeq ?_
  refine wRegion ?_
  refine rmI rfl rfl rfl rfl rfl ?_
  (apply rlr (vs := [.int _ _, .int _ _, .bool _, .int _ _, .int _ _, .int _ _, .int _ _, .str _, _, _]) rfl rfl; (first | ((simp (disch := omega) only [↓app0, ↓appC, ↓updS, ↓updN, ↓hpS, ↓hpN]) <;> first | rfl | assumption) | assumption | rfl); rfl; rfl; (exact Nat.le_of_ble_eq_true rfl); rfl; rfl; rfl; rfl)
  refine rcl (p11U n c (.nsl) (.nsl) false false (twN Rp.T hr0) (twN An.T ha) hc hL) rfl rfl rfl rfl rfl rfl ?_
  refine rnot (c := true) rfl rfl rfl rfl rfl ?_
  refine rNil ?_
  refine qSeq ?_
  refine wF rfl ?_
  refine wSkip ?_
  refine qSeq ?_
  refine wSeq ?_
  refine wRegion ?_
  (apply rlr (vs := [.int _ _, .int _ _, .bool _, .int _ _, .int _ _, .int _ _, .int _ _, .str _, _, _]) rfl rfl; (first | ((simp (disch := omega) only [↓app0, ↓appC, ↓updS, ↓updN, ↓hpS, ↓hpN]) <;> first | rfl | assumption) | assumption | rfl); rfl; rfl; (exact Nat.le_of_ble_eq_true rfl); rfl; rfl; rfl; rfl)
  refine rop (o16NN c (by omega) (by omega)) rfl rfl rfl rfl rfl rfl ?_
  refine ral rfl rfl rfl rfl rfl rfl ?_
  (apply rst (u := .agg [.int _ _, .int _ _, .bool _, .int _ _, .int _ _, .int _ _, .int _ _, .str _, _, _]) rfl rfl rfl; (first | ((simp (disch := omega) only [↓app0, ↓appC, ↓updS, ↓updN, ↓hpS, ↓hpN]) <;> first | rfl | assumption) | assumption | rfl); rfl; rfl; rfl; rfl; rfl; (exact Nat.le_of_ble_eq_true rfl); rfl; rfl; rfl)
  refine rNil ?_
  refine qSeq ?_
  refine wSeq ?_
  refine wRegion ?_
  refine rmI rfl rfl rfl rfl rfl ?_
  (apply rlr (vs := [.int _ _, .int _ _, .int _ _, .int _ _, .int _ _, .int _ _, .int _ _, .str _]) rfl rfl; (first | ((simp (disch := omega) only [↓app0, ↓appC, ↓updS, ↓updN, ↓hpS, ↓hpN]) <;> first | rfl | assumption) | assumption | rfl); rfl; rfl; (exact Nat.le_of_ble_eq_true rfl); rfl; rfl; rfl; rfl)
  refine rop (o21NNd n c r hb hr hl hL hd (id := 5) ?_ ?_ hr0 ha) rfl rfl rfl rfl rfl rfl ?_
  · (first | omega | (first | ((simp (disch := omega) only [↓app0, ↓appC, ↓updS, ↓updN, ↓hpS, ↓hpN]) <;> first | rfl | assumption) | assumption | rfl) | (first | omega | assumption | (focus (simp; omega))))
  · (first | omega | (first | ((simp (disch := omega) only [↓app0, ↓appC, ↓updS, ↓updN, ↓hpS, ↓hpN]) <;> first | rfl | assumption) | assumption | rfl) | (first | omega | assumption | (focus (simp; omega))))
  refine raI rfl rfl rfl rfl rfl ?_
  refine rNil ?_
  refine qSeq ?_
  refine wSeq ?_
  refine wRegion ?_
  (apply rlr (vs := [.int _ _, .int _ _, .bool _, .int _ _, .int _ _, .int _ _, .int _ _, .str _, _, _]) rfl rfl; (first | ((simp (disch := omega) only [↓app0, ↓appC, ↓updS, ↓updN, ↓hpS, ↓hpN]) <;> first | rfl | assumption) | assumption | rfl); rfl; rfl; (exact Nat.le_of_ble_eq_true rfl); rfl; rfl; rfl; rfl)
  refine rmI rfl rfl rfl rfl rfl ?_
  (apply rst (u := .agg [.int _ _, .int _ _, .bool _, .int _ _, .int _ _, .int _ _, .int _ _, .str _, _, _]) rfl rfl rfl; (first | ((simp (disch := omega) only [↓app0, ↓appC, ↓updS, ↓updN, ↓hpS, ↓hpN]) <;> first | rfl | assumption) | assumption | rfl); rfl; rfl; rfl; rfl; rfl; (exact Nat.le_of_ble_eq_true rfl); rfl; rfl; rfl)
  refine raI rfl rfl rfl rfl rfl ?_
  refine rNil ?_
  refine qSeq ?_
  refine wRet ?_
  exact finS [11] rfl (SnapL.cons _ _ _ _ (SnapC.agg (.cons _ _ _ _ (.int _ _) (.cons _ _ _ _ (.int _ _) (.cons _ _ _ _ (.bool _) (.cons _ _ _ _ (.int _ _) (.cons _ _ _ _ (.int _ _) (.cons _ _ _ _ (.int _ _) (.cons _ _ _ _ (.int _ _) (.cons _ _ _ _ (.str _) (.cons _ _ _ _ (.nsl) (.cons _ _ _ _ (snapView (b := ⟨(c.acc ++ [a]).map An.V, 4, 35⟩) ((c.acc ++ [a]).map An.T) (by simp) (by ((simp (disch := omega) only [↓app0, ↓appC, ↓updS, ↓updN]) <;> first | rfl | assumption)) (rowsAn2 _).symm (by rw [ha]; rfl)) .nil))))))))))) (SnapL.cons _ _ _ _ (.one _ _ (.int _ _)) SnapL.nil))

theorem p10NVu (n : Int) (c : Cl) (r : Rp) (hc : c.OK n) (hb : c.bz = true) (hr : r.OK n ∧ r.cl = c.id ∧ r.st = c.st) (hl : c.rps.length < 40) (hL : c.acc.length ≤ 1000) (hr0 : c.rps = []) (hd : dec n c.id c.st (c.rps ++ [r]) = none) :
    Pure En 10 [.one (.int .i64 n), .agg (c.U (.nsl) (.sl true (c.acc.map An.T))), .agg r.T] [.agg ((Cl.mk c.id c.st c.bz c.rq (c.rps ++ [r]) c.acc).U (.sl true ((c.rps ++ [r]).map Rp.T)) (.sl true (c.acc.map An.T))), .one (.int .i64 0)] := by
  refine Pure.of_wp Tryd.func10 rfl (Nat.le_of_ble_eq_true rfl) ?_
  refine wSeq ?_
  refine wRegion ?_
  refine rbx (u := .agg [.int _ _, .int _ _, .bool _, .int _ _, .int _ _, .int _ _, .int _ _, .str _, _, _]) rfl rfl rfl rfl rfl rfl rfl ?_
  refine rbx (u := .agg [.int _ _, .int _ _, .int _ _, .int _ _, .int _ _, .int _ _, .int _ _, .str _]) rfl rfl rfl rfl rfl rfl rfl ?_
  refine ral rfl rfl rfl rfl rfl rfl ?_
  refine raI rfl rfl rfl rfl rfl ?_
  refine rNil ?_
  refine qSeq ?_
  refine wSeq ?_
  refine wSeq ?_
  refine wRegion ?_
  refine rmI rfl rfl rfl rfl rfl ?_
  (apply rlr (vs := [.int _ _, .int _ _, .bool _, .int _ _, .int _ _, .int _ _, .int _ _, .str _, _, _]) rfl rfl; (first | ((simp (disch := omega) only [↓app0, ↓appC, ↓updS, ↓updN, ↓hpS, ↓hpN]) <;> first | rfl | assumption) | assumption | rfl); rfl; rfl; (exact Nat.le_of_ble_eq_true rfl); rfl; rfl; rfl; rfl)
  refine rcl (p11U n c (.nsl) (.sl true (c.acc.map An.T)) false true (twN Rp.T hr0) (.refl _) hc hL) rfl rfl rfl rfl rfl rfl ?_
  refine rnot (c := true) rfl rfl rfl rfl rfl ?_
  refine rNil ?_
  refine qSeq ?_
  refine wF rfl ?_
  refine wSkip ?_
  refine qSeq ?_
  refine wSeq ?_
  refine wRegion ?_
  (apply rlr (vs := [.int _ _, .int _ _, .bool _, .int _ _, .int _ _, .int _ _, .int _ _, .str _, _, _]) rfl rfl; (first | ((simp (disch := omega) only [↓app0, ↓appC, ↓updS, ↓updN, ↓hpS, ↓hpN]) <;> first | rfl | assumption) | assumption | rfl); rfl; rfl; (exact Nat.le_of_ble_eq_true rfl); rfl; rfl; rfl; rfl)
  refine rop (o16NV c (by omega) (by omega)) rfl rfl rfl rfl rfl rfl ?_
  refine ral rfl rfl rfl rfl rfl rfl ?_
  (apply rst (u := .agg [.int _ _, .int _ _, .bool _, .int _ _, .int _ _, .int _ _, .int _ _, .str _, _, _]) rfl rfl rfl; (first | ((simp (disch := omega) only [↓app0, ↓appC, ↓updS, ↓updN, ↓hpS, ↓hpN]) <;> first | rfl | assumption) | assumption | rfl); rfl; rfl; rfl; rfl; rfl; (exact Nat.le_of_ble_eq_true rfl); rfl; rfl; rfl)
  refine rNil ?_
  refine qSeq ?_
  refine wSeq ?_
  refine wRegion ?_
  refine rmI rfl rfl rfl rfl rfl ?_
  (apply rlr (vs := [.int _ _, .int _ _, .int _ _, .int _ _, .int _ _, .int _ _, .int _ _, .str _]) rfl rfl; (first | ((simp (disch := omega) only [↓app0, ↓appC, ↓updS, ↓updN, ↓hpS, ↓hpN]) <;> first | rfl | assumption) | assumption | rfl); rfl; rfl; (exact Nat.le_of_ble_eq_true rfl); rfl; rfl; rfl; rfl)
  refine rop (o21NVu n c r hb hr hl hL hd (id := 7) (id2 := 6) ?_ ?_ hr0 ?_ ?_ ?_) rfl rfl rfl rfl rfl rfl ?_
  · (first | omega | (first | ((simp (disch := omega) only [↓app0, ↓appC, ↓updS, ↓updN, ↓hpS, ↓hpN]) <;> first | rfl | assumption) | assumption | rfl) | (first | omega | assumption | (focus (simp; omega))))
  · (first | omega | (first | ((simp (disch := omega) only [↓app0, ↓appC, ↓updS, ↓updN, ↓hpS, ↓hpN]) <;> first | rfl | assumption) | assumption | rfl) | (first | omega | assumption | (focus (simp; omega))))
  · (first | omega | (first | ((simp (disch := omega) only [↓app0, ↓appC, ↓updS, ↓updN, ↓hpS, ↓hpN]) <;> first | rfl | assumption) | assumption | rfl) | (first | omega | assumption | (focus (simp; omega))))
  · (first | omega | (first | ((simp (disch := omega) only [↓app0, ↓appC, ↓updS, ↓updN, ↓hpS, ↓hpN]) <;> first | rfl | assumption) | assumption | rfl) | (first | omega | assumption | (focus (simp; omega))))
  · (first | omega | (first | ((simp (disch := omega) only [↓app0, ↓appC, ↓updS, ↓updN, ↓hpS, ↓hpN]) <;> first | rfl | assumption) | assumption | rfl) | (first | omega | assumption | (focus (simp; omega))))
  refine raI rfl rfl rfl rfl rfl ?_
  refine rNil ?_
  refine qSeq ?_
  refine wSeq ?_
  refine wRegion ?_
  (apply rlr (vs := [.int _ _, .int _ _, .bool _, .int _ _, .int _ _, .int _ _, .int _ _, .str _, _, _]) rfl rfl; (first | ((simp (disch := omega) only [↓app0, ↓appC, ↓updS, ↓updN, ↓hpS, ↓hpN]) <;> first | rfl | assumption) | assumption | rfl); rfl; rfl; (exact Nat.le_of_ble_eq_true rfl); rfl; rfl; rfl; rfl)
  refine rmI rfl rfl rfl rfl rfl ?_
  (apply rst (u := .agg [.int _ _, .int _ _, .bool _, .int _ _, .int _ _, .int _ _, .int _ _, .str _, _, _]) rfl rfl rfl; (first | ((simp (disch := omega) only [↓app0, ↓appC, ↓updS, ↓updN, ↓hpS, ↓hpN]) <;> first | rfl | assumption) | assumption | rfl); rfl; rfl; rfl; rfl; rfl; (exact Nat.le_of_ble_eq_true rfl); rfl; rfl; rfl)
  refine raI rfl rfl rfl rfl rfl ?_
  refine rNil ?_
  refine qSeq ?_
  refine wRet ?_
  exact finS [10, 6] rfl (SnapL.cons _ _ _ _ (SnapC.agg (.cons _ _ _ _ (.int _ _) (.cons _ _ _ _ (.int _ _) (.cons _ _ _ _ (.bool _) (.cons _ _ _ _ (.int _ _) (.cons _ _ _ _ (.int _ _) (.cons _ _ _ _ (.int _ _) (.cons _ _ _ _ (.int _ _) (.cons _ _ _ _ (.str _) (.cons _ _ _ _ (snapView (b := ⟨(c.rps ++ [r]).map Rp.V, 8, 39⟩) ((c.rps ++ [r]).map Rp.T) (by simp) (by ((simp (disch := omega) only [↓app0, ↓appC, ↓updS, ↓updN]) <;> first | rfl | assumption)) (rowsRp2 _).symm (by rw [hr0]; rfl)) (.cons _ _ _ _ (snapView (b := ⟨(c.acc).map An.V, 4, 35⟩) ((c.acc).map An.T) (by simp) (by ((simp (disch := omega) only [↓app0, ↓appC, ↓updS, ↓updN]) <;> first | rfl | assumption)) (rowsAn2 _).symm (by simp)) .nil))))))))))) (SnapL.cons _ _ _ _ (.one _ _ (.int _ _)) SnapL.nil))

theorem p10NVd (n : Int) (c : Cl) (r : Rp) (hc : c.OK n) (hb : c.bz = true) (hr : r.OK n ∧ r.cl = c.id ∧ r.st = c.st) (hl : c.rps.length < 40) (hL : c.acc.length ≤ 1000) (hr0 : c.rps = []) (a : An) (hd : dec n c.id c.st (c.rps ++ [r]) = some a) :
    Pure En 10 [.one (.int .i64 n), .agg (c.U (.nsl) (.sl true (c.acc.map An.T))), .agg r.T] [.agg ((Cl.mk c.id c.st false Rq0 [] (c.acc ++ [a])).U .nsl (.sl true ((c.acc ++ [a]).map An.T))), .one (.int .i64 0)] := by
  refine Pure.of_wp Tryd.func10 rfl (Nat.le_of_ble_eq_true rfl) ?_
  refine wSeq ?_
  refine wRegion ?_
  refine rbx (u := .agg [.int _ _, .int _ _, .bool _, .int _ _, .int _ _, .int _ _, .int _ _, .str _, _, _]) rfl rfl rfl rfl rfl rfl rfl ?_
  refine rbx (u := .agg [.int _ _, .int _ _, .int _ _, .int _ _, .int _ _, .int _ _, .int _ _, .str _]) rfl rfl rfl rfl rfl rfl rfl ?_
  refine ral rfl rfl rfl rfl rfl rfl ?_
  refine raI rfl rfl rfl rfl rfl ?_
  refine rNil ?_
  refine qSeq ?_
  refine wSeq ?_
  refine wSeq ?_
  refine wRegion ?_
  refine rmI rfl rfl rfl rfl rfl ?_
  (apply rlr (vs := [.int _ _, .int _ _, .bool _, .int _ _, .int _ _, .int _ _, .int _ _, .str _, _, _]) rfl rfl; (first | ((simp (disch := omega) only [↓app0, ↓appC, ↓updS, ↓updN, ↓hpS, ↓hpN]) <;> first | rfl | assumption) | assumption | rfl); rfl; rfl; (exact Nat.le_of_ble_eq_true rfl); rfl; rfl; rfl; rfl)
  refine rcl (p11U n c (.nsl) (.sl true (c.acc.map An.T)) false true (twN Rp.T hr0) (.refl _) hc hL) rfl rfl rfl rfl rfl rfl ?_
  refine rnot (c := true) rfl rfl rfl rfl rfl ?_
  refine rNil ?_
  refine qSeq ?_
  refine wF rfl ?_
  refine wSkip ?_
  refine qSeq ?_
  refine wSeq ?_
  refine wRegion ?_
  (apply rlr (vs := [.int _ _, .int _ _, .bool _, .int _ _, .int _ _, .int _ _, .int _ _, .str _, _, _]) rfl rfl; (first | ((simp (disch := omega) only [↓app0, ↓appC, ↓updS, ↓updN, ↓hpS, ↓hpN]) <;> first | rfl | assumption) | assumption | rfl); rfl; rfl; (exact Nat.le_of_ble_eq_true rfl); rfl; rfl; rfl; rfl)
  refine rop (o16NV c (by omega) (by omega)) rfl rfl rfl rfl rfl rfl ?_
  refine ral rfl rfl rfl rfl rfl rfl ?_
  (apply rst (u := .agg [.int _ _, .int _ _, .bool _, .int _ _, .int _ _, .int _ _, .int _ _, .str _, _, _]) rfl rfl rfl; (first | ((simp (disch := omega) only [↓app0, ↓appC, ↓updS, ↓updN, ↓hpS, ↓hpN]) <;> first | rfl | assumption) | assumption | rfl); rfl; rfl; rfl; rfl; rfl; (exact Nat.le_of_ble_eq_true rfl); rfl; rfl; rfl)
  refine rNil ?_
  refine qSeq ?_
  refine wSeq ?_
  refine wRegion ?_
  refine rmI rfl rfl rfl rfl rfl ?_
  (apply rlr (vs := [.int _ _, .int _ _, .int _ _, .int _ _, .int _ _, .int _ _, .int _ _, .str _]) rfl rfl; (first | ((simp (disch := omega) only [↓app0, ↓appC, ↓updS, ↓updN, ↓hpS, ↓hpN]) <;> first | rfl | assumption) | assumption | rfl); rfl; rfl; (exact Nat.le_of_ble_eq_true rfl); rfl; rfl; rfl; rfl)
  refine rop (o21NVd n c r hb hr hl hL hd (id := 7) (id2 := 6) ?_ ?_ hr0 ?_ ?_ ?_) rfl rfl rfl rfl rfl rfl ?_
  · (first | omega | (first | ((simp (disch := omega) only [↓app0, ↓appC, ↓updS, ↓updN, ↓hpS, ↓hpN]) <;> first | rfl | assumption) | assumption | rfl) | (first | omega | assumption | (focus (simp; omega))))
  · (first | omega | (first | ((simp (disch := omega) only [↓app0, ↓appC, ↓updS, ↓updN, ↓hpS, ↓hpN]) <;> first | rfl | assumption) | assumption | rfl) | (first | omega | assumption | (focus (simp; omega))))
  · (first | omega | (first | ((simp (disch := omega) only [↓app0, ↓appC, ↓updS, ↓updN, ↓hpS, ↓hpN]) <;> first | rfl | assumption) | assumption | rfl) | (first | omega | assumption | (focus (simp; omega))))
  · (first | omega | (first | ((simp (disch := omega) only [↓app0, ↓appC, ↓updS, ↓updN, ↓hpS, ↓hpN]) <;> first | rfl | assumption) | assumption | rfl) | (first | omega | assumption | (focus (simp; omega))))
  · (first | omega | (first | ((simp (disch := omega) only [↓app0, ↓appC, ↓updS, ↓updN, ↓hpS, ↓hpN]) <;> first | rfl | assumption) | assumption | rfl) | (first | omega | assumption | (focus (simp; omega))))
  refine raI rfl rfl rfl rfl rfl ?_
  refine rNil ?_
  refine qSeq ?_
  refine wSeq ?_
  refine wRegion ?_
  (apply rlr (vs := [.int _ _, .int _ _, .bool _, .int _ _, .int _ _, .int _ _, .int _ _, .str _, _, _]) rfl rfl; (first | ((simp (disch := omega) only [↓app0, ↓appC, ↓updS, ↓updN, ↓hpS, ↓hpN]) <;> first | rfl | assumption) | assumption | rfl); rfl; rfl; (exact Nat.le_of_ble_eq_true rfl); rfl; rfl; rfl; rfl)
  refine rmI rfl rfl rfl rfl rfl ?_
  (apply rst (u := .agg [.int _ _, .int _ _, .bool _, .int _ _, .int _ _, .int _ _, .int _ _, .str _, _, _]) rfl rfl rfl; (first | ((simp (disch := omega) only [↓app0, ↓appC, ↓updS, ↓updN, ↓hpS, ↓hpN]) <;> first | rfl | assumption) | assumption | rfl); rfl; rfl; rfl; rfl; rfl; (exact Nat.le_of_ble_eq_true rfl); rfl; rfl; rfl)
  refine raI rfl rfl rfl rfl rfl ?_
  refine rNil ?_
  refine qSeq ?_
  refine wRet ?_
  exact finS [13] rfl (SnapL.cons _ _ _ _ (SnapC.agg (.cons _ _ _ _ (.int _ _) (.cons _ _ _ _ (.int _ _) (.cons _ _ _ _ (.bool _) (.cons _ _ _ _ (.int _ _) (.cons _ _ _ _ (.int _ _) (.cons _ _ _ _ (.int _ _) (.cons _ _ _ _ (.int _ _) (.cons _ _ _ _ (.str _) (.cons _ _ _ _ (.nsl) (.cons _ _ _ _ (snapView (b := ⟨(c.acc ++ [a]).map An.V, 4, 35⟩) ((c.acc ++ [a]).map An.T) (by simp) (by ((simp (disch := omega) only [↓app0, ↓appC, ↓updS, ↓updN]) <;> first | rfl | assumption)) (rowsAn2 _).symm (by simp)) .nil))))))))))) (SnapL.cons _ _ _ _ (.one _ _ (.int _ _)) SnapL.nil))

theorem p10VNu (n : Int) (c : Cl) (r : Rp) (hc : c.OK n) (hb : c.bz = true) (hr : r.OK n ∧ r.cl = c.id ∧ r.st = c.st) (hl : c.rps.length < 40) (hL : c.acc.length ≤ 1000) (ha : c.acc = []) (hd : dec n c.id c.st (c.rps ++ [r]) = none) :
    Pure En 10 [.one (.int .i64 n), .agg (c.U (.sl true (c.rps.map Rp.T)) (.nsl)), .agg r.T] [.agg ((Cl.mk c.id c.st c.bz c.rq (c.rps ++ [r]) c.acc).U (.sl true ((c.rps ++ [r]).map Rp.T)) (.nsl)), .one (.int .i64 0)] := by
  refine Pure.of_wp Tryd.func10 rfl (Nat.le_of_ble_eq_true rfl) ?_
  refine wSeq ?_
  refine wRegion ?_
  refine rbx (u := .agg [.int _ _, .int _ _, .bool _, .int _ _, .int _ _, .int _ _, .int _ _, .str _, _, _]) rfl rfl rfl rfl rfl rfl rfl ?_
  refine rbx (u := .agg [.int _ _, .int _ _, .int _ _, .int _ _, .int _ _, .int _ _, .int _ _, .str _]) rfl rfl rfl rfl rfl rfl rfl ?_
  refine ral rfl rfl rfl rfl rfl rfl ?_
  refine raI rfl rfl rfl rfl rfl ?_
  refine rNil ?_
  refine qSeq ?_
  refine wSeq ?_
  refine wSeq ?_
  refine wRegion ?_
  refine rmI rfl rfl rfl rfl rfl ?_
  (apply rlr (vs := [.int _ _, .int _ _, .bool _, .int _ _, .int _ _, .int _ _, .int _ _, .str _, _, _]) rfl rfl; (first | ((simp (disch := omega) only [↓app0, ↓appC, ↓updS, ↓updN, ↓hpS, ↓hpN]) <;> first | rfl | assumption) | assumption | rfl); rfl; rfl; (exact Nat.le_of_ble_eq_true rfl); rfl; rfl; rfl; rfl)
  refine rcl (p11U n c (.sl true (c.rps.map Rp.T)) (.nsl) true false (.refl _) (twN An.T ha) hc hL) rfl rfl rfl rfl rfl rfl ?_
  refine rnot (c := true) rfl rfl rfl rfl rfl ?_
  refine rNil ?_
  refine qSeq ?_
  refine wF rfl ?_
  refine wSkip ?_
  refine qSeq ?_
  refine wSeq ?_
  refine wRegion ?_
  (apply rlr (vs := [.int _ _, .int _ _, .bool _, .int _ _, .int _ _, .int _ _, .int _ _, .str _, _, _]) rfl rfl; (first | ((simp (disch := omega) only [↓app0, ↓appC, ↓updS, ↓updN, ↓hpS, ↓hpN]) <;> first | rfl | assumption) | assumption | rfl); rfl; rfl; (exact Nat.le_of_ble_eq_true rfl); rfl; rfl; rfl; rfl)
  refine rop (o16VN c (by omega) (by omega)) rfl rfl rfl rfl rfl rfl ?_
  refine ral rfl rfl rfl rfl rfl rfl ?_
  (apply rst (u := .agg [.int _ _, .int _ _, .bool _, .int _ _, .int _ _, .int _ _, .int _ _, .str _, _, _]) rfl rfl rfl; (first | ((simp (disch := omega) only [↓app0, ↓appC, ↓updS, ↓updN, ↓hpS, ↓hpN]) <;> first | rfl | assumption) | assumption | rfl); rfl; rfl; rfl; rfl; rfl; (exact Nat.le_of_ble_eq_true rfl); rfl; rfl; rfl)
  refine rNil ?_
  refine qSeq ?_
  refine wSeq ?_
  refine wRegion ?_
  refine rmI rfl rfl rfl rfl rfl ?_
  (apply rlr (vs := [.int _ _, .int _ _, .int _ _, .int _ _, .int _ _, .int _ _, .int _ _, .str _]) rfl rfl; (first | ((simp (disch := omega) only [↓app0, ↓appC, ↓updS, ↓updN, ↓hpS, ↓hpN]) <;> first | rfl | assumption) | assumption | rfl); rfl; rfl; (exact Nat.le_of_ble_eq_true rfl); rfl; rfl; rfl; rfl)
  refine rop (o21VNu n c r hb hr hl hL hd (id := 7) (id1 := 6) ?_ ?_ ?_ ?_ ?_) rfl rfl rfl rfl rfl rfl ?_
  · (first | omega | (first | ((simp (disch := omega) only [↓app0, ↓appC, ↓updS, ↓updN, ↓hpS, ↓hpN]) <;> first | rfl | assumption) | assumption | rfl) | (first | omega | assumption | (focus (simp; omega))))
  · (first | omega | (first | ((simp (disch := omega) only [↓app0, ↓appC, ↓updS, ↓updN, ↓hpS, ↓hpN]) <;> first | rfl | assumption) | assumption | rfl) | (first | omega | assumption | (focus (simp; omega))))
  · (first | omega | (first | ((simp (disch := omega) only [↓app0, ↓appC, ↓updS, ↓updN, ↓hpS, ↓hpN]) <;> first | rfl | assumption) | assumption | rfl) | (first | omega | assumption | (focus (simp; omega))))
  · (first | omega | (first | ((simp (disch := omega) only [↓app0, ↓appC, ↓updS, ↓updN, ↓hpS, ↓hpN]) <;> first | rfl | assumption) | assumption | rfl) | (first | omega | assumption | (focus (simp; omega))))
  · (first | omega | (first | ((simp (disch := omega) only [↓app0, ↓appC, ↓updS, ↓updN, ↓hpS, ↓hpN]) <;> first | rfl | assumption) | assumption | rfl) | (first | omega | assumption | (focus (simp; omega))))
  refine raI rfl rfl rfl rfl rfl ?_
  refine rNil ?_
  refine qSeq ?_
  refine wSeq ?_
  refine wRegion ?_
  (apply rlr (vs := [.int _ _, .int _ _, .bool _, .int _ _, .int _ _, .int _ _, .int _ _, .str _, _, _]) rfl rfl; (first | ((simp (disch := omega) only [↓app0, ↓appC, ↓updS, ↓updN, ↓hpS, ↓hpN]) <;> first | rfl | assumption) | assumption | rfl); rfl; rfl; (exact Nat.le_of_ble_eq_true rfl); rfl; rfl; rfl; rfl)
  refine rmI rfl rfl rfl rfl rfl ?_
  (apply rst (u := .agg [.int _ _, .int _ _, .bool _, .int _ _, .int _ _, .int _ _, .int _ _, .str _, _, _]) rfl rfl rfl; (first | ((simp (disch := omega) only [↓app0, ↓appC, ↓updS, ↓updN, ↓hpS, ↓hpN]) <;> first | rfl | assumption) | assumption | rfl); rfl; rfl; rfl; rfl; rfl; (exact Nat.le_of_ble_eq_true rfl); rfl; rfl; rfl)
  refine raI rfl rfl rfl rfl rfl ?_
  refine rNil ?_
  refine qSeq ?_
  refine wRet ?_
  exact finS [10] rfl (SnapL.cons _ _ _ _ (SnapC.agg (.cons _ _ _ _ (.int _ _) (.cons _ _ _ _ (.int _ _) (.cons _ _ _ _ (.bool _) (.cons _ _ _ _ (.int _ _) (.cons _ _ _ _ (.int _ _) (.cons _ _ _ _ (.int _ _) (.cons _ _ _ _ (.int _ _) (.cons _ _ _ _ (.str _) (.cons _ _ _ _ (snapView (b := ⟨(c.rps ++ [r]).map Rp.V, 8, 39⟩) ((c.rps ++ [r]).map Rp.T) (by simp) (by ((simp (disch := omega) only [↓app0, ↓appC, ↓updS, ↓updN]) <;> first | rfl | assumption)) (rowsRp2 _).symm (by simp)) (.cons _ _ _ _ (.nsl) .nil))))))))))) (SnapL.cons _ _ _ _ (.one _ _ (.int _ _)) SnapL.nil))

theorem p10VNd (n : Int) (c : Cl) (r : Rp) (hc : c.OK n) (hb : c.bz = true) (hr : r.OK n ∧ r.cl = c.id ∧ r.st = c.st) (hl : c.rps.length < 40) (hL : c.acc.length ≤ 1000) (ha : c.acc = []) (a : An) (hd : dec n c.id c.st (c.rps ++ [r]) = some a) :
    Pure En 10 [.one (.int .i64 n), .agg (c.U (.sl true (c.rps.map Rp.T)) (.nsl)), .agg r.T] [.agg ((Cl.mk c.id c.st false Rq0 [] (c.acc ++ [a])).U .nsl (.sl true ((c.acc ++ [a]).map An.T))), .one (.int .i64 0)] := by
  refine Pure.of_wp Tryd.func10 rfl (Nat.le_of_ble_eq_true rfl) ?_
  refine wSeq ?_
  refine wRegion ?_
  refine rbx (u := .agg [.int _ _, .int _ _, .bool _, .int _ _, .int _ _, .int _ _, .int _ _, .str _, _, _]) rfl rfl rfl rfl rfl rfl rfl ?_
  refine rbx (u := .agg [.int _ _, .int _ _, .int _ _, .int _ _, .int _ _, .int _ _, .int _ _, .str _]) rfl rfl rfl rfl rfl rfl rfl ?_
  refine ral rfl rfl rfl rfl rfl rfl ?_
  refine raI rfl rfl rfl rfl rfl ?_
  refine rNil ?_
  refine qSeq ?_
  refine wSeq ?_
  refine wSeq ?_
  refine wRegion ?_
  refine rmI rfl rfl rfl rfl rfl ?_
  (apply rlr (vs := [.int _ _, .int _ _, .bool _, .int _ _, .int _ _, .int _ _, .int _ _, .str _, _, _]) rfl rfl; (first | ((simp (disch := omega) only [↓app0, ↓appC, ↓updS, ↓updN, ↓hpS, ↓hpN]) <;> first | rfl | assumption) | assumption | rfl); rfl; rfl; (exact Nat.le_of_ble_eq_true rfl); rfl; rfl; rfl; rfl)
  refine rcl (p11U n c (.sl true (c.rps.map Rp.T)) (.nsl) true false (.refl _) (twN An.T ha) hc hL) rfl rfl rfl rfl rfl rfl ?_
  refine rnot (c := true) rfl rfl rfl rfl rfl ?_
  refine rNil ?_
  refine qSeq ?_
  refine wF rfl ?_
  refine wSkip ?_
  refine qSeq ?_
  refine wSeq ?_
  refine wRegion ?_
  (apply rlr (vs := [.int _ _, .int _ _, .bool _, .int _ _, .int _ _, .int _ _, .int _ _, .str _, _, _]) rfl rfl; (first | ((simp (disch := omega) only [↓app0, ↓appC, ↓updS, ↓updN, ↓hpS, ↓hpN]) <;> first | rfl | assumption) | assumption | rfl); rfl; rfl; (exact Nat.le_of_ble_eq_true rfl); rfl; rfl; rfl; rfl)
  refine rop (o16VN c (by omega) (by omega)) rfl rfl rfl rfl rfl rfl ?_
  refine ral rfl rfl rfl rfl rfl rfl ?_
  (apply rst (u := .agg [.int _ _, .int _ _, .bool _, .int _ _, .int _ _, .int _ _, .int _ _, .str _, _, _]) rfl rfl rfl; (first | ((simp (disch := omega) only [↓app0, ↓appC, ↓updS, ↓updN, ↓hpS, ↓hpN]) <;> first | rfl | assumption) | assumption | rfl); rfl; rfl; rfl; rfl; rfl; (exact Nat.le_of_ble_eq_true rfl); rfl; rfl; rfl)
  refine rNil ?_
  refine qSeq ?_
  refine wSeq ?_
  refine wRegion ?_
  refine rmI rfl rfl rfl rfl rfl ?_
  (apply rlr (vs := [.int _ _, .int _ _, .int _ _, .int _ _, .int _ _, .int _ _, .int _ _, .str _]) rfl rfl; (first | ((simp (disch := omega) only [↓app0, ↓appC, ↓updS, ↓updN, ↓hpS, ↓hpN]) <;> first | rfl | assumption) | assumption | rfl); rfl; rfl; (exact Nat.le_of_ble_eq_true rfl); rfl; rfl; rfl; rfl)
  refine rop (o21VNd n c r hb hr hl hL hd (id := 7) (id1 := 6) ?_ ?_ ?_ ?_ ?_ ha) rfl rfl rfl rfl rfl rfl ?_
  · (first | omega | (first | ((simp (disch := omega) only [↓app0, ↓appC, ↓updS, ↓updN, ↓hpS, ↓hpN]) <;> first | rfl | assumption) | assumption | rfl) | (first | omega | assumption | (focus (simp; omega))))
  · (first | omega | (first | ((simp (disch := omega) only [↓app0, ↓appC, ↓updS, ↓updN, ↓hpS, ↓hpN]) <;> first | rfl | assumption) | assumption | rfl) | (first | omega | assumption | (focus (simp; omega))))
  · (first | omega | (first | ((simp (disch := omega) only [↓app0, ↓appC, ↓updS, ↓updN, ↓hpS, ↓hpN]) <;> first | rfl | assumption) | assumption | rfl) | (first | omega | assumption | (focus (simp; omega))))
  · (first | omega | (first | ((simp (disch := omega) only [↓app0, ↓appC, ↓updS, ↓updN, ↓hpS, ↓hpN]) <;> first | rfl | assumption) | assumption | rfl) | (first | omega | assumption | (focus (simp; omega))))
  · (first | omega | (first | ((simp (disch := omega) only [↓app0, ↓appC, ↓updS, ↓updN, ↓hpS, ↓hpN]) <;> first | rfl | assumption) | assumption | rfl) | (first | omega | assumption | (focus (simp; omega))))
  refine raI rfl rfl rfl rfl rfl ?_
  refine rNil ?_
  refine qSeq ?_
  refine wSeq ?_
  refine wRegion ?_
  (apply rlr (vs := [.int _ _, .int _ _, .bool _, .int _ _, .int _ _, .int _ _, .int _ _, .str _, _, _]) rfl rfl; (first | ((simp (disch := omega) only [↓app0, ↓appC, ↓updS, ↓updN, ↓hpS, ↓hpN]) <;> first | rfl | assumption) | assumption | rfl); rfl; rfl; (exact Nat.le_of_ble_eq_true rfl); rfl; rfl; rfl; rfl)
  refine rmI rfl rfl rfl rfl rfl ?_
  (apply rst (u := .agg [.int _ _, .int _ _, .bool _, .int _ _, .int _ _, .int _ _, .int _ _, .str _, _, _]) rfl rfl rfl; (first | ((simp (disch := omega) only [↓app0, ↓appC, ↓updS, ↓updN, ↓hpS, ↓hpN]) <;> first | rfl | assumption) | assumption | rfl); rfl; rfl; rfl; rfl; rfl; (exact Nat.le_of_ble_eq_true rfl); rfl; rfl; rfl)
  refine raI rfl rfl rfl rfl rfl ?_
  refine rNil ?_
  refine qSeq ?_
  refine wRet ?_
  exact finS [13] rfl (SnapL.cons _ _ _ _ (SnapC.agg (.cons _ _ _ _ (.int _ _) (.cons _ _ _ _ (.int _ _) (.cons _ _ _ _ (.bool _) (.cons _ _ _ _ (.int _ _) (.cons _ _ _ _ (.int _ _) (.cons _ _ _ _ (.int _ _) (.cons _ _ _ _ (.int _ _) (.cons _ _ _ _ (.str _) (.cons _ _ _ _ (.nsl) (.cons _ _ _ _ (snapView (b := ⟨(c.acc ++ [a]).map An.V, 4, 35⟩) ((c.acc ++ [a]).map An.T) (by simp) (by ((simp (disch := omega) only [↓app0, ↓appC, ↓updS, ↓updN]) <;> first | rfl | assumption)) (rowsAn2 _).symm (by rw [ha]; rfl)) .nil))))))))))) (SnapL.cons _ _ _ _ (.one _ _ (.int _ _)) SnapL.nil))

theorem p10VVu (n : Int) (c : Cl) (r : Rp) (hc : c.OK n) (hb : c.bz = true) (hr : r.OK n ∧ r.cl = c.id ∧ r.st = c.st) (hl : c.rps.length < 40) (hL : c.acc.length ≤ 1000) (hd : dec n c.id c.st (c.rps ++ [r]) = none) :
    Pure En 10 [.one (.int .i64 n), .agg (c.U (.sl true (c.rps.map Rp.T)) (.sl true (c.acc.map An.T))), .agg r.T] [.agg ((Cl.mk c.id c.st c.bz c.rq (c.rps ++ [r]) c.acc).U (.sl true ((c.rps ++ [r]).map Rp.T)) (.sl true (c.acc.map An.T))), .one (.int .i64 0)] := by
  refine Pure.of_wp Tryd.func10 rfl (Nat.le_of_ble_eq_true rfl) ?_
  refine wSeq ?_
  refine wRegion ?_
  refine rbx (u := .agg [.int _ _, .int _ _, .bool _, .int _ _, .int _ _, .int _ _, .int _ _, .str _, _, _]) rfl rfl rfl rfl rfl rfl rfl ?_
  refine rbx (u := .agg [.int _ _, .int _ _, .int _ _, .int _ _, .int _ _, .int _ _, .int _ _, .str _]) rfl rfl rfl rfl rfl rfl rfl ?_
  refine ral rfl rfl rfl rfl rfl rfl ?_
  refine raI rfl rfl rfl rfl rfl ?_
  refine rNil ?_
  refine qSeq ?_
  refine wSeq ?_
  refine wSeq ?_
  refine wRegion ?_
  refine rmI rfl rfl rfl rfl rfl ?_
  (apply rlr (vs := [.int _ _, .int _ _, .bool _, .int _ _, .int _ _, .int _ _, .int _ _, .str _, _, _]) rfl rfl; (first | ((simp (disch := omega) only [↓app0, ↓appC, ↓updS, ↓updN, ↓hpS, ↓hpN]) <;> first | rfl | assumption) | assumption | rfl); rfl; rfl; (exact Nat.le_of_ble_eq_true rfl); rfl; rfl; rfl; rfl)
  refine rcl (p11U n c (.sl true (c.rps.map Rp.T)) (.sl true (c.acc.map An.T)) true true (.refl _) (.refl _) hc hL) rfl rfl rfl rfl rfl rfl ?_
  refine rnot (c := true) rfl rfl rfl rfl rfl ?_
  refine rNil ?_
  refine qSeq ?_
  refine wF rfl ?_
  refine wSkip ?_
  refine qSeq ?_
  refine wSeq ?_
  refine wRegion ?_
  (apply rlr (vs := [.int _ _, .int _ _, .bool _, .int _ _, .int _ _, .int _ _, .int _ _, .str _, _, _]) rfl rfl; (first | ((simp (disch := omega) only [↓app0, ↓appC, ↓updS, ↓updN, ↓hpS, ↓hpN]) <;> first | rfl | assumption) | assumption | rfl); rfl; rfl; (exact Nat.le_of_ble_eq_true rfl); rfl; rfl; rfl; rfl)
  refine rop (o16VV c (by omega) (by omega)) rfl rfl rfl rfl rfl rfl ?_
  refine ral rfl rfl rfl rfl rfl rfl ?_
  (apply rst (u := .agg [.int _ _, .int _ _, .bool _, .int _ _, .int _ _, .int _ _, .int _ _, .str _, _, _]) rfl rfl rfl; (first | ((simp (disch := omega) only [↓app0, ↓appC, ↓updS, ↓updN, ↓hpS, ↓hpN]) <;> first | rfl | assumption) | assumption | rfl); rfl; rfl; rfl; rfl; rfl; (exact Nat.le_of_ble_eq_true rfl); rfl; rfl; rfl)
  refine rNil ?_
  refine qSeq ?_
  refine wSeq ?_
  refine wRegion ?_
  refine rmI rfl rfl rfl rfl rfl ?_
  (apply rlr (vs := [.int _ _, .int _ _, .int _ _, .int _ _, .int _ _, .int _ _, .int _ _, .str _]) rfl rfl; (first | ((simp (disch := omega) only [↓app0, ↓appC, ↓updS, ↓updN, ↓hpS, ↓hpN]) <;> first | rfl | assumption) | assumption | rfl); rfl; rfl; (exact Nat.le_of_ble_eq_true rfl); rfl; rfl; rfl; rfl)
  refine rop (o21VVu n c r hb hr hl hL hd (id := 9) (id1 := 6) (id2 := 8) ?_ ?_ ?_ ?_ ?_ ?_ ?_ ?_ ?_) rfl rfl rfl rfl rfl rfl ?_
  · (first | omega | (first | ((simp (disch := omega) only [↓app0, ↓appC, ↓updS, ↓updN, ↓hpS, ↓hpN]) <;> first | rfl | assumption) | assumption | rfl) | (first | omega | assumption | (focus (simp; omega))))
  · (first | omega | (first | ((simp (disch := omega) only [↓app0, ↓appC, ↓updS, ↓updN, ↓hpS, ↓hpN]) <;> first | rfl | assumption) | assumption | rfl) | (first | omega | assumption | (focus (simp; omega))))
  · (first | omega | (first | ((simp (disch := omega) only [↓app0, ↓appC, ↓updS, ↓updN, ↓hpS, ↓hpN]) <;> first | rfl | assumption) | assumption | rfl) | (first | omega | assumption | (focus (simp; omega))))
  · (first | omega | (first | ((simp (disch := omega) only [↓app0, ↓appC, ↓updS, ↓updN, ↓hpS, ↓hpN]) <;> first | rfl | assumption) | assumption | rfl) | (first | omega | assumption | (focus (simp; omega))))
  · (first | omega | (first | ((simp (disch := omega) only [↓app0, ↓appC, ↓updS, ↓updN, ↓hpS, ↓hpN]) <;> first | rfl | assumption) | assumption | rfl) | (first | omega | assumption | (focus (simp; omega))))
  · (first | omega | (first | ((simp (disch := omega) only [↓app0, ↓appC, ↓updS, ↓updN, ↓hpS, ↓hpN]) <;> first | rfl | assumption) | assumption | rfl) | (first | omega | assumption | (focus (simp; omega))))
  · (first | omega | (first | ((simp (disch := omega) only [↓app0, ↓appC, ↓updS, ↓updN, ↓hpS, ↓hpN]) <;> first | rfl | assumption) | assumption | rfl) | (first | omega | assumption | (focus (simp; omega))))
  · (first | omega | (first | ((simp (disch := omega) only [↓app0, ↓appC, ↓updS, ↓updN, ↓hpS, ↓hpN]) <;> first | rfl | assumption) | assumption | rfl) | (first | omega | assumption | (focus (simp; omega))))
  · (first | omega | (first | ((simp (disch := omega) only [↓app0, ↓appC, ↓updS, ↓updN, ↓hpS, ↓hpN]) <;> first | rfl | assumption) | assumption | rfl) | (first | omega | assumption | (focus (simp; omega))))
  refine raI rfl rfl rfl rfl rfl ?_
  refine rNil ?_
  refine qSeq ?_
  refine wSeq ?_
  refine wRegion ?_
  (apply rlr (vs := [.int _ _, .int _ _, .bool _, .int _ _, .int _ _, .int _ _, .int _ _, .str _, _, _]) rfl rfl; (first | ((simp (disch := omega) only [↓app0, ↓appC, ↓updS, ↓updN, ↓hpS, ↓hpN]) <;> first | rfl | assumption) | assumption | rfl); rfl; rfl; (exact Nat.le_of_ble_eq_true rfl); rfl; rfl; rfl; rfl)
  refine rmI rfl rfl rfl rfl rfl ?_
  (apply rst (u := .agg [.int _ _, .int _ _, .bool _, .int _ _, .int _ _, .int _ _, .int _ _, .str _, _, _]) rfl rfl rfl; (first | ((simp (disch := omega) only [↓app0, ↓appC, ↓updS, ↓updN, ↓hpS, ↓hpN]) <;> first | rfl | assumption) | assumption | rfl); rfl; rfl; rfl; rfl; rfl; (exact Nat.le_of_ble_eq_true rfl); rfl; rfl; rfl)
  refine raI rfl rfl rfl rfl rfl ?_
  refine rNil ?_
  refine qSeq ?_
  refine wRet ?_
  exact finS [12, 8] rfl (SnapL.cons _ _ _ _ (SnapC.agg (.cons _ _ _ _ (.int _ _) (.cons _ _ _ _ (.int _ _) (.cons _ _ _ _ (.bool _) (.cons _ _ _ _ (.int _ _) (.cons _ _ _ _ (.int _ _) (.cons _ _ _ _ (.int _ _) (.cons _ _ _ _ (.int _ _) (.cons _ _ _ _ (.str _) (.cons _ _ _ _ (snapView (b := ⟨(c.rps ++ [r]).map Rp.V, 8, 39⟩) ((c.rps ++ [r]).map Rp.T) (by simp) (by ((simp (disch := omega) only [↓app0, ↓appC, ↓updS, ↓updN]) <;> first | rfl | assumption)) (rowsRp2 _).symm (by simp)) (.cons _ _ _ _ (snapView (b := ⟨(c.acc).map An.V, 4, 35⟩) ((c.acc).map An.T) (by simp) (by ((simp (disch := omega) only [↓app0, ↓appC, ↓updS, ↓updN]) <;> first | rfl | assumption)) (rowsAn2 _).symm (by simp)) .nil))))))))))) (SnapL.cons _ _ _ _ (.one _ _ (.int _ _)) SnapL.nil))

theorem p10VVd (n : Int) (c : Cl) (r : Rp) (hc : c.OK n) (hb : c.bz = true) (hr : r.OK n ∧ r.cl = c.id ∧ r.st = c.st) (hl : c.rps.length < 40) (hL : c.acc.length ≤ 1000) (a : An) (hd : dec n c.id c.st (c.rps ++ [r]) = some a) :
    Pure En 10 [.one (.int .i64 n), .agg (c.U (.sl true (c.rps.map Rp.T)) (.sl true (c.acc.map An.T))), .agg r.T] [.agg ((Cl.mk c.id c.st false Rq0 [] (c.acc ++ [a])).U .nsl (.sl true ((c.acc ++ [a]).map An.T))), .one (.int .i64 0)] := by
  refine Pure.of_wp Tryd.func10 rfl (Nat.le_of_ble_eq_true rfl) ?_
  refine wSeq ?_
  refine wRegion ?_
  refine rbx (u := .agg [.int _ _, .int _ _, .bool _, .int _ _, .int _ _, .int _ _, .int _ _, .str _, _, _]) rfl rfl rfl rfl rfl rfl rfl ?_
  refine rbx (u := .agg [.int _ _, .int _ _, .int _ _, .int _ _, .int _ _, .int _ _, .int _ _, .str _]) rfl rfl rfl rfl rfl rfl rfl ?_
  refine ral rfl rfl rfl rfl rfl rfl ?_
  refine raI rfl rfl rfl rfl rfl ?_
  refine rNil ?_
  refine qSeq ?_
  refine wSeq ?_
  refine wSeq ?_
  refine wRegion ?_
  refine rmI rfl rfl rfl rfl rfl ?_
  (apply rlr (vs := [.int _ _, .int _ _, .bool _, .int _ _, .int _ _, .int _ _, .int _ _, .str _, _, _]) rfl rfl; (first | ((simp (disch := omega) only [↓app0, ↓appC, ↓updS, ↓updN, ↓hpS, ↓hpN]) <;> first | rfl | assumption) | assumption | rfl); rfl; rfl; (exact Nat.le_of_ble_eq_true rfl); rfl; rfl; rfl; rfl)
  refine rcl (p11U n c (.sl true (c.rps.map Rp.T)) (.sl true (c.acc.map An.T)) true true (.refl _) (.refl _) hc hL) rfl rfl rfl rfl rfl rfl ?_
  refine rnot (c := true) rfl rfl rfl rfl rfl ?_
  refine rNil ?_
  refine qSeq ?_
  refine wF rfl ?_
  refine wSkip ?_
  refine qSeq ?_
  refine wSeq ?_
  refine wRegion ?_
  (apply rlr (vs := [.int _ _, .int _ _, .bool _, .int _ _, .int _ _, .int _ _, .int _ _, .str _, _, _]) rfl rfl; (first | ((simp (disch := omega) only [↓app0, ↓appC, ↓updS, ↓updN, ↓hpS, ↓hpN]) <;> first | rfl | assumption) | assumption | rfl); rfl; rfl; (exact Nat.le_of_ble_eq_true rfl); rfl; rfl; rfl; rfl)
  refine rop (o16VV c (by omega) (by omega)) rfl rfl rfl rfl rfl rfl ?_
  refine ral rfl rfl rfl rfl rfl rfl ?_
  (apply rst (u := .agg [.int _ _, .int _ _, .bool _, .int _ _, .int _ _, .int _ _, .int _ _, .str _, _, _]) rfl rfl rfl; (first | ((simp (disch := omega) only [↓app0, ↓appC, ↓updS, ↓updN, ↓hpS, ↓hpN]) <;> first | rfl | assumption) | assumption | rfl); rfl; rfl; rfl; rfl; rfl; (exact Nat.le_of_ble_eq_true rfl); rfl; rfl; rfl)
  refine rNil ?_
  refine qSeq ?_
  refine wSeq ?_
  refine wRegion ?_
  refine rmI rfl rfl rfl rfl rfl ?_
  (apply rlr (vs := [.int _ _, .int _ _, .int _ _, .int _ _, .int _ _, .int _ _, .int _ _, .str _]) rfl rfl; (first | ((simp (disch := omega) only [↓app0, ↓appC, ↓updS, ↓updN, ↓hpS, ↓hpN]) <;> first | rfl | assumption) | assumption | rfl); rfl; rfl; (exact Nat.le_of_ble_eq_true rfl); rfl; rfl; rfl; rfl)
  refine rop (o21VVd n c r hb hr hl hL hd (id := 9) (id1 := 6) (id2 := 8) ?_ ?_ ?_ ?_ ?_ ?_ ?_ ?_ ?_) rfl rfl rfl rfl rfl rfl ?_
  · (first | omega | (first | ((simp (disch := omega) only [↓app0, ↓appC, ↓updS, ↓updN, ↓hpS, ↓hpN]) <;> first | rfl | assumption) | assumption | rfl) | (first | omega | assumption | (focus (simp; omega))))
  · (first | omega | (first | ((simp (disch := omega) only [↓app0, ↓appC, ↓updS, ↓updN, ↓hpS, ↓hpN]) <;> first | rfl | assumption) | assumption | rfl) | (first | omega | assumption | (focus (simp; omega))))
  · (first | omega | (first | ((simp (disch := omega) only [↓app0, ↓appC, ↓updS, ↓updN, ↓hpS, ↓hpN]) <;> first | rfl | assumption) | assumption | rfl) | (first | omega | assumption | (focus (simp; omega))))
  · (first | omega | (first | ((simp (disch := omega) only [↓app0, ↓appC, ↓updS, ↓updN, ↓hpS, ↓hpN]) <;> first | rfl | assumption) | assumption | rfl) | (first | omega | assumption | (focus (simp; omega))))
  · (first | omega | (first | ((simp (disch := omega) only [↓app0, ↓appC, ↓updS, ↓updN, ↓hpS, ↓hpN]) <;> first | rfl | assumption) | assumption | rfl) | (first | omega | assumption | (focus (simp; omega))))
  · (first | omega | (first | ((simp (disch := omega) only [↓app0, ↓appC, ↓updS, ↓updN, ↓hpS, ↓hpN]) <;> first | rfl | assumption) | assumption | rfl) | (first | omega | assumption | (focus (simp; omega))))
  · (first | omega | (first | ((simp (disch := omega) only [↓app0, ↓appC, ↓updS, ↓updN, ↓hpS, ↓hpN]) <;> first | rfl | assumption) | assumption | rfl) | (first | omega | assumption | (focus (simp; omega))))
  · (first | omega | (first | ((simp (disch := omega) only [↓app0, ↓appC, ↓updS, ↓updN, ↓hpS, ↓hpN]) <;> first | rfl | assumption) | assumption | rfl) | (first | omega | assumption | (focus (simp; omega))))
  · (first | omega | (first | ((simp (disch := omega) only [↓app0, ↓appC, ↓updS, ↓updN, ↓hpS, ↓hpN]) <;> first | rfl | assumption) | assumption | rfl) | (first | omega | assumption | (focus (simp; omega))))
  refine raI rfl rfl rfl rfl rfl ?_
  refine rNil ?_
  refine qSeq ?_
  refine wSeq ?_
  refine wRegion ?_
  (apply rlr (vs := [.int _ _, .int _ _, .bool _, .int _ _, .int _ _, .int _ _, .int _ _, .str _, _, _]) rfl rfl; (first | ((simp (disch := omega) only [↓app0, ↓appC, ↓updS, ↓updN, ↓hpS, ↓hpN]) <;> first | rfl | assumption) | assumption | rfl); rfl; rfl; (exact Nat.le_of_ble_eq_true rfl); rfl; rfl; rfl; rfl)
  refine rmI rfl rfl rfl rfl rfl ?_
  (apply rst (u := .agg [.int _ _, .int _ _, .bool _, .int _ _, .int _ _, .int _ _, .int _ _, .str _, _, _]) rfl rfl rfl; (first | ((simp (disch := omega) only [↓app0, ↓appC, ↓updS, ↓updN, ↓hpS, ↓hpN]) <;> first | rfl | assumption) | assumption | rfl); rfl; rfl; rfl; rfl; rfl; (exact Nat.le_of_ble_eq_true rfl); rfl; rfl; rfl)
  refine raI rfl rfl rfl rfl rfl ?_
  refine rNil ?_
  refine qSeq ?_
  refine wRet ?_
  exact finS [15] rfl (SnapL.cons _ _ _ _ (SnapC.agg (.cons _ _ _ _ (.int _ _) (.cons _ _ _ _ (.int _ _) (.cons _ _ _ _ (.bool _) (.cons _ _ _ _ (.int _ _) (.cons _ _ _ _ (.int _ _) (.cons _ _ _ _ (.int _ _) (.cons _ _ _ _ (.int _ _) (.cons _ _ _ _ (.str _) (.cons _ _ _ _ (.nsl) (.cons _ _ _ _ (snapView (b := ⟨(c.acc ++ [a]).map An.V, 4, 35⟩) ((c.acc ++ [a]).map An.T) (by simp) (by ((simp (disch := omega) only [↓app0, ↓appC, ↓updS, ↓updN]) <;> first | rfl | assumption)) (rowsAn2 _).symm (by simp)) .nil))))))))))) (SnapL.cons _ _ _ _ (.one _ _ (.int _ _)) SnapL.nil))

end Go.Proofs.YtnkpjlpappmccaaDoor
