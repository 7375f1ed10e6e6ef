import Derived.Test.YtknnniaoboaghaaA3
namespace Go.Proofs.Ytknnniaoboaghaa
open Go.V
set_option linter.unusedVariables false
set_option linter.unusedSimpArgs false
set_option maxRecDepth 20000
set_option maxHeartbeats 4000000

/-! The law's own: tables copied and compared. -/
theorem o11 (t : Tb) (fr n1 n2 : Bool) (hL : t.lk.length ≤ 1048576) (hW : ∀ i, i < t.lk.length → (t.lk.getD i Lk0).ws.length ≤ 1048576) (hS : t.sn.length ≤ 1048576) {h : Heap} {n : Nat} :
    V.Open En 11 [.agg [.int .i64 t.tm, .int .i64 t.nx, .sl fr n1 (t.lk.map (Lk.T false)), .sl fr n2 (t.sn.map Sn.T)]] h n (.agg [.int .i64 t.tm, .int .i64 t.nx, .view (n + 3) 0 t.lk.length, .view (n + 3 + 1 + 4 * t.lk.length) 0 t.sn.length])
    ([(n + 3, some ⟨lkR (fun i => n + 3 + 1 + 4 * i + 3) t.lk, 5, 29⟩), (n + 3 + 1 + 4 * t.lk.length, some ⟨t.sn.map Sn.V, 6, 115⟩)] ++ famL (fun i => n + 3 + 1 + 4 * i + 3) (wsF t.lk) t.lk.length) (n + 5 + 4 * t.lk.length) := by
  refine V.Open.of_wp Try.func11 rfl (Nat.le_of_ble_eq_true rfl) ?_
  refine wSeq ?_
  refine wRegion ?_
  (refine rbx (u := .agg [.int .i64 t.tm, .int .i64 t.nx, .sl fr n1 (t.lk.map (Lk.T false)), .sl fr n2 (t.sn.map Sn.T)]) rfl rfl rfl rfl rfl rfl rfl ?_)
  refine ral rfl rfl rfl rfl rfl rfl ?_
  refine rNil ?_
  refine qSeq ?_
  refine wSeq ?_
  refine wRegion ?_
  refine ral rfl rfl rfl rfl rfl rfl ?_
  refine rNil ?_
  refine qSeq ?_
  refine wSeq ?_
  refine wRegion ?_
  refine rfa (off := 0) (s := 1) (r := false) rfl rfl rfl (Nat.succ_ne_zero _) rfl rfl rfl ?_
  (apply rlc (v := .int _ _) rfl rfl; (first | ((simp (disch := omega) only [↓app0, ↓appC, ↓updS, ↓updN, ↓hpS, ↓hpN]) <;> first | rfl | assumption) | ((simp (disch := (first | omega | (intro _ _; dsimp only; omega))) only [↓app_append, ↓famO, ↓app0, ↓appC, ↓updS, ↓updN, ↓hpS, ↓hpN]) <;> first | rfl | assumption) | assumption | rfl); rfl; rfl; rfl; rfl; rfl; rfl)
  refine rfa (off := 0) (s := 1) (r := false) rfl rfl rfl (Nat.succ_ne_zero _) rfl rfl rfl ?_
  (apply rst (u := .int _ _) rfl rfl rfl; (first | ((simp (disch := omega) only [↓app0, ↓appC, ↓updS, ↓updN, ↓hpS, ↓hpN]) <;> first | rfl | assumption) | ((simp (disch := (first | omega | (intro _ _; dsimp only; omega))) only [↓app_append, ↓famO, ↓app0, ↓appC, ↓updS, ↓updN, ↓hpS, ↓hpN]) <;> first | rfl | assumption) | assumption | rfl); rfl; rfl; rfl; rfl; rfl; (exact Nat.le_of_ble_eq_true rfl); rfl; rfl; rfl)
  refine rNil ?_
  refine qSeq ?_
  refine wSeq ?_
  refine wRegion ?_
  refine rfa (off := 1) (s := 1) (r := false) rfl rfl rfl (Nat.succ_ne_zero _) rfl rfl rfl ?_
  (apply rlc (v := .int _ _) rfl rfl; (first | ((simp (disch := omega) only [↓app0, ↓appC, ↓updS, ↓updN, ↓hpS, ↓hpN]) <;> first | rfl | assumption) | ((simp (disch := (first | omega | (intro _ _; dsimp only; omega))) only [↓app_append, ↓famO, ↓app0, ↓appC, ↓updS, ↓updN, ↓hpS, ↓hpN]) <;> first | rfl | assumption) | assumption | rfl); rfl; rfl; rfl; rfl; rfl; rfl)
  refine rfa (off := 1) (s := 1) (r := false) rfl rfl rfl (Nat.succ_ne_zero _) rfl rfl rfl ?_
  (apply rst (u := .int _ _) rfl rfl rfl; (first | ((simp (disch := omega) only [↓app0, ↓appC, ↓updS, ↓updN, ↓hpS, ↓hpN]) <;> first | rfl | assumption) | ((simp (disch := (first | omega | (intro _ _; dsimp only; omega))) only [↓app_append, ↓famO, ↓app0, ↓appC, ↓updS, ↓updN, ↓hpS, ↓hpN]) <;> first | rfl | assumption) | assumption | rfl); rfl; rfl; rfl; rfl; rfl; (exact Nat.le_of_ble_eq_true rfl); rfl; rfl; rfl)
  refine rNil ?_
  refine qSeq ?_
  refine wSeq ?_
  refine wRegion ?_
  refine rfa (off := 2) (s := 1) (r := false) rfl rfl rfl (Nat.succ_ne_zero _) rfl rfl rfl ?_
  (apply rlc (v := .sl _ _ _) rfl rfl; (first | ((simp (disch := omega) only [↓app0, ↓appC, ↓updS, ↓updN, ↓hpS, ↓hpN]) <;> first | rfl | assumption) | ((simp (disch := (first | omega | (intro _ _; dsimp only; omega))) only [↓app_append, ↓famO, ↓app0, ↓appC, ↓updS, ↓updN, ↓hpS, ↓hpN]) <;> first | rfl | assumption) | assumption | rfl); rfl; rfl; rfl; rfl; rfl; rfl)
  refine rop (o45 fr n1 t.lk hL hW) rfl rfl rfl rfl rfl rfl ?_
  refine rfa (off := 2) (s := 1) (r := false) rfl rfl rfl (Nat.succ_ne_zero _) rfl rfl rfl ?_
  (apply rst (u := .view _ _ _) rfl rfl rfl; (first | ((simp (disch := omega) only [↓app0, ↓appC, ↓updS, ↓updN, ↓hpS, ↓hpN]) <;> first | rfl | assumption) | ((simp (disch := (first | omega | (intro _ _; dsimp only; omega))) only [↓app_append, ↓famO, ↓app0, ↓appC, ↓updS, ↓updN, ↓hpS, ↓hpN]) <;> first | rfl | assumption) | assumption | rfl); rfl; rfl; rfl; rfl; rfl; (exact Nat.le_of_ble_eq_true rfl); rfl; rfl; rfl)
  refine rNil ?_
  refine qSeq ?_
  refine wSeq ?_
  refine wRegion ?_
  refine rfa (off := 3) (s := 1) (r := false) rfl rfl rfl (Nat.succ_ne_zero _) rfl rfl rfl ?_
  (apply rlc (v := .sl _ _ _) rfl rfl; (first | ((simp (disch := omega) only [↓app0, ↓appC, ↓updS, ↓updN, ↓hpS, ↓hpN]) <;> first | rfl | assumption) | ((simp (disch := (first | omega | (intro _ _; dsimp only; omega))) only [↓app_append, ↓famO, ↓app0, ↓appC, ↓updS, ↓updN, ↓hpS, ↓hpN]) <;> first | rfl | assumption) | assumption | rfl); rfl; rfl; rfl; rfl; rfl; rfl)
  refine rop (o46 fr n2 t.sn hS) rfl rfl rfl rfl rfl rfl ?_
  refine rfa (off := 3) (s := 1) (r := false) rfl rfl rfl (Nat.succ_ne_zero _) rfl rfl rfl ?_
  (apply rst (u := .view _ _ _) rfl rfl rfl; (first | ((simp (disch := omega) only [↓app0, ↓appC, ↓updS, ↓updN, ↓hpS, ↓hpN]) <;> first | rfl | assumption) | ((simp (disch := (first | omega | (intro _ _; dsimp only; omega))) only [↓app_append, ↓famO, ↓app0, ↓appC, ↓updS, ↓updN, ↓hpS, ↓hpN]) <;> first | rfl | assumption) | assumption | rfl); rfl; rfl; rfl; rfl; rfl; (exact Nat.le_of_ble_eq_true rfl); rfl; rfl; rfl)
  refine rNil ?_
  refine qSeq ?_
  refine wSeq ?_
  refine wRegion ?_
  (apply rlr (vs := [.int _ _, .int _ _, _, _]) rfl rfl; (first | ((simp (disch := omega) only [↓app0, ↓appC, ↓updS, ↓updN, ↓hpS, ↓hpN]) <;> first | rfl | assumption) | ((simp (disch := (first | omega | (intro _ _; dsimp only; omega))) only [↓app_append, ↓famO, ↓app0, ↓appC, ↓updS, ↓updN, ↓hpS, ↓hpN]) <;> first | rfl | assumption) | assumption | rfl); rfl; rfl; (exact Nat.le_of_ble_eq_true rfl); rfl; rfl; rfl; rfl)
  (apply rst (u := .agg [.int _ _, .int _ _, _, _]) rfl rfl rfl; (first | ((simp (disch := omega) only [↓app0, ↓appC, ↓updS, ↓updN, ↓hpS, ↓hpN]) <;> first | rfl | assumption) | ((simp (disch := (first | omega | (intro _ _; dsimp only; omega))) only [↓app_append, ↓famO, ↓app0, ↓appC, ↓updS, ↓updN, ↓hpS, ↓hpN]) <;> first | rfl | assumption) | assumption | rfl); rfl; rfl; rfl; rfl; rfl; (exact Nat.le_of_ble_eq_true rfl); rfl; rfl; rfl)
  refine rNil ?_
  refine qSeq ?_
  refine wRet ?_
  refine finO (resL_cons (resV_row rfl (by (first | ((simp (disch := omega) only [↓app0, ↓appC, ↓updS, ↓updN, ↓hpS, ↓hpN]) <;> first | rfl | assumption) | ((simp (disch := (first | omega | (intro _ _; dsimp only; omega))) only [↓app_append, ↓famO, ↓app0, ↓appC, ↓updS, ↓updN, ↓hpS, ↓hpN]) <;> first | rfl | assumption) | assumption | rfl)) rfl rfl (Nat.le_of_ble_eq_true rfl) rfl) resL_nil) rfl ?_ (by omega)
  refine leFam (fun i hi => ?_) (fun j hj => ?_) (fun j hl hf hn => ?_)
  · refine Eq.trans ?_ (famA (w := (fun i => n + 3 + 1 + 4 * i + 3)) (fun a b _ _ e => by (try dsimp only at e); omega) hi).symm
    simp (disch := omega) only [↓appC, ↓updN, ↓app0]
    exact famA (w := (fun i => n + 3 + 1 + 4 * i + 3)) (fun a b _ _ e => by (try dsimp only at e); omega) hi
  · simp only [List.map_cons, List.map_nil, List.mem_cons, List.not_mem_nil, or_false] at hj
    refine Eq.trans ?_ (famAO (fun k _ => by rcases hj with e | e <;> rw [e] <;> (try dsimp only) <;> omega)).symm
    rcases hj with e | e <;> rw [e] <;> simp (disch := (first | omega | (intro _ _; dsimp only; omega))) only [↓app_append, ↓famO, ↓app0, ↓appC, ↓updS, ↓updN, ↓hpS, ↓hpN] <;> rfl
  · simp only [List.map_cons, List.map_nil, List.mem_cons, List.not_mem_nil, or_false, not_or] at hn
    simp (disch := omega) only [↓appC, ↓updN, ↓app0]
    refine (famAO (w := (fun i => n + 3 + 1 + 4 * i + 3)) (n := t.lk.length) hf).trans ?_
    simp (disch := omega) only [↓app0, ↓appC, ↓updS, ↓updN, ↓hpS, ↓hpN]
theorem s11 (t : Tb) (n1 n2 : Bool) (hL : t.lk.length ≤ 1048576) (hW : ∀ i, i < t.lk.length → (t.lk.getD i Lk0).ws.length ≤ 1048576) (hS : t.sn.length ≤ 1048576) : Pure En 11 [.agg (t.T false n1 n2)] [.agg (t.T true true true)] := by
  refine Pure.of_wp Try.func11 rfl (Nat.le_of_ble_eq_true rfl) ?_
  refine wSeq ?_
  refine wRegion ?_
  refine rbx (u := .agg [.int _ _, .int _ _, _, _]) rfl rfl rfl rfl rfl rfl rfl ?_
  refine ral rfl rfl rfl rfl rfl rfl ?_
  refine rNil ?_
  refine qSeq ?_
  refine wSeq ?_
  refine wRegion ?_
  refine ral rfl rfl rfl rfl rfl rfl ?_
  refine rNil ?_
  refine qSeq ?_
  refine wSeq ?_
  refine wRegion ?_
  refine rfa (off := 0) (s := 1) (r := false) rfl rfl rfl (Nat.succ_ne_zero _) rfl rfl rfl ?_
  (apply rlc (v := .int _ _) rfl rfl; (first | ((simp (disch := omega) only [↓app0, ↓appC, ↓updS, ↓updN, ↓hpS, ↓hpN]) <;> first | rfl | assumption) | ((simp (disch := (first | omega | (intro _ _; dsimp only; omega))) only [↓app_append, ↓famO, ↓app0, ↓appC, ↓updS, ↓updN, ↓hpS, ↓hpN]) <;> first | rfl | assumption) | assumption | rfl); rfl; rfl; rfl; rfl; rfl; rfl)
  refine rfa (off := 0) (s := 1) (r := false) rfl rfl rfl (Nat.succ_ne_zero _) rfl rfl rfl ?_
  (apply rst (u := .int _ _) rfl rfl rfl; (first | ((simp (disch := omega) only [↓app0, ↓appC, ↓updS, ↓updN, ↓hpS, ↓hpN]) <;> first | rfl | assumption) | ((simp (disch := (first | omega | (intro _ _; dsimp only; omega))) only [↓app_append, ↓famO, ↓app0, ↓appC, ↓updS, ↓updN, ↓hpS, ↓hpN]) <;> first | rfl | assumption) | assumption | rfl); rfl; rfl; rfl; rfl; rfl; (exact Nat.le_of_ble_eq_true rfl); rfl; rfl; rfl)
  refine rNil ?_
  refine qSeq ?_
  refine wSeq ?_
  refine wRegion ?_
  refine rfa (off := 1) (s := 1) (r := false) rfl rfl rfl (Nat.succ_ne_zero _) rfl rfl rfl ?_
  (apply rlc (v := .int _ _) rfl rfl; (first | ((simp (disch := omega) only [↓app0, ↓appC, ↓updS, ↓updN, ↓hpS, ↓hpN]) <;> first | rfl | assumption) | ((simp (disch := (first | omega | (intro _ _; dsimp only; omega))) only [↓app_append, ↓famO, ↓app0, ↓appC, ↓updS, ↓updN, ↓hpS, ↓hpN]) <;> first | rfl | assumption) | assumption | rfl); rfl; rfl; rfl; rfl; rfl; rfl)
  refine rfa (off := 1) (s := 1) (r := false) rfl rfl rfl (Nat.succ_ne_zero _) rfl rfl rfl ?_
  (apply rst (u := .int _ _) rfl rfl rfl; (first | ((simp (disch := omega) only [↓app0, ↓appC, ↓updS, ↓updN, ↓hpS, ↓hpN]) <;> first | rfl | assumption) | ((simp (disch := (first | omega | (intro _ _; dsimp only; omega))) only [↓app_append, ↓famO, ↓app0, ↓appC, ↓updS, ↓updN, ↓hpS, ↓hpN]) <;> first | rfl | assumption) | assumption | rfl); rfl; rfl; rfl; rfl; rfl; (exact Nat.le_of_ble_eq_true rfl); rfl; rfl; rfl)
  refine rNil ?_
  refine qSeq ?_
  refine wSeq ?_
  refine wRegion ?_
  refine rfa (off := 2) (s := 1) (r := false) rfl rfl rfl (Nat.succ_ne_zero _) rfl rfl rfl ?_
  (apply rlc (v := .sl _ _ _) rfl rfl; (first | ((simp (disch := omega) only [↓app0, ↓appC, ↓updS, ↓updN, ↓hpS, ↓hpN]) <;> first | rfl | assumption) | ((simp (disch := (first | omega | (intro _ _; dsimp only; omega))) only [↓app_append, ↓famO, ↓app0, ↓appC, ↓updS, ↓updN, ↓hpS, ↓hpN]) <;> first | rfl | assumption) | assumption | rfl); rfl; rfl; rfl; rfl; rfl; rfl)
  refine rop (o45 false n1 t.lk hL hW) rfl rfl rfl rfl rfl rfl ?_
  refine rfa (off := 2) (s := 1) (r := false) rfl rfl rfl (Nat.succ_ne_zero _) rfl rfl rfl ?_
  (apply rst (u := .view _ _ _) rfl rfl rfl; (first | ((simp (disch := omega) only [↓app0, ↓appC, ↓updS, ↓updN, ↓hpS, ↓hpN]) <;> first | rfl | assumption) | ((simp (disch := (first | omega | (intro _ _; dsimp only; omega))) only [↓app_append, ↓famO, ↓app0, ↓appC, ↓updS, ↓updN, ↓hpS, ↓hpN]) <;> first | rfl | assumption) | assumption | rfl); rfl; rfl; rfl; rfl; rfl; (exact Nat.le_of_ble_eq_true rfl); rfl; rfl; rfl)
  refine rNil ?_
  refine qSeq ?_
  refine wSeq ?_
  refine wRegion ?_
  refine rfa (off := 3) (s := 1) (r := false) rfl rfl rfl (Nat.succ_ne_zero _) rfl rfl rfl ?_
  (apply rlc (v := .sl _ _ _) rfl rfl; (first | ((simp (disch := omega) only [↓app0, ↓appC, ↓updS, ↓updN, ↓hpS, ↓hpN]) <;> first | rfl | assumption) | ((simp (disch := (first | omega | (intro _ _; dsimp only; omega))) only [↓app_append, ↓famO, ↓app0, ↓appC, ↓updS, ↓updN, ↓hpS, ↓hpN]) <;> first | rfl | assumption) | assumption | rfl); rfl; rfl; rfl; rfl; rfl; rfl)
  refine rop (o46 false n2 t.sn hS) rfl rfl rfl rfl rfl rfl ?_
  refine rfa (off := 3) (s := 1) (r := false) rfl rfl rfl (Nat.succ_ne_zero _) rfl rfl rfl ?_
  (apply rst (u := .view _ _ _) rfl rfl rfl; (first | ((simp (disch := omega) only [↓app0, ↓appC, ↓updS, ↓updN, ↓hpS, ↓hpN]) <;> first | rfl | assumption) | ((simp (disch := (first | omega | (intro _ _; dsimp only; omega))) only [↓app_append, ↓famO, ↓app0, ↓appC, ↓updS, ↓updN, ↓hpS, ↓hpN]) <;> first | rfl | assumption) | assumption | rfl); rfl; rfl; rfl; rfl; rfl; (exact Nat.le_of_ble_eq_true rfl); rfl; rfl; rfl)
  refine rNil ?_
  refine qSeq ?_
  refine wSeq ?_
  refine wRegion ?_
  (apply rlr (vs := [.int _ _, .int _ _, _, _]) rfl rfl; (first | ((simp (disch := omega) only [↓app0, ↓appC, ↓updS, ↓updN, ↓hpS, ↓hpN]) <;> first | rfl | assumption) | ((simp (disch := (first | omega | (intro _ _; dsimp only; omega))) only [↓app_append, ↓famO, ↓app0, ↓appC, ↓updS, ↓updN, ↓hpS, ↓hpN]) <;> first | rfl | assumption) | assumption | rfl); rfl; rfl; (exact Nat.le_of_ble_eq_true rfl); rfl; rfl; rfl; rfl)
  (apply rst (u := .agg [.int _ _, .int _ _, _, _]) rfl rfl rfl; (first | ((simp (disch := omega) only [↓app0, ↓appC, ↓updS, ↓updN, ↓hpS, ↓hpN]) <;> first | rfl | assumption) | ((simp (disch := (first | omega | (intro _ _; dsimp only; omega))) only [↓app_append, ↓famO, ↓app0, ↓appC, ↓updS, ↓updN, ↓hpS, ↓hpN]) <;> first | rfl | assumption) | assumption | rfl); rfl; rfl; rfl; rfl; rfl; (exact Nat.le_of_ble_eq_true rfl); rfl; rfl; rfl)
  refine rNil ?_
  refine qSeq ?_
  refine wRet ?_
  refine finS ([3, 3 + 1 + 4 * t.lk.length] ++ (List.range t.lk.length).map (fun i => 3 + 1 + 4 * i + 3)) (resL_cons (resV_row rfl (by (first | ((simp (disch := omega) only [↓app0, ↓appC, ↓updS, ↓updN, ↓hpS, ↓hpN]) <;> first | rfl | assumption) | ((simp (disch := (first | omega | (intro _ _; dsimp only; omega))) only [↓app_append, ↓famO, ↓app0, ↓appC, ↓updS, ↓updN, ↓hpS, ↓hpN]) <;> first | rfl | assumption) | assumption | rfl)) rfl rfl (Nat.le_of_ble_eq_true rfl) rfl) resL_nil) ?_
  refine SnapL.cons _ _ _ _ (snapTb (w := (fun i => 3 + 1 + 4 * i + 3)) (List.mem_append_left _ List.mem_cons_self) (List.mem_append_left _ (List.mem_cons_of_mem _ List.mem_cons_self)) (fun i hi => List.mem_append_right _ (List.mem_map.2 ⟨i, List.mem_range.2 hi, rfl⟩)) (by (first | ((simp (disch := omega) only [↓app0, ↓appC, ↓updS, ↓updN, ↓hpS, ↓hpN]) <;> first | rfl | assumption) | ((simp (disch := (first | omega | (intro _ _; dsimp only; omega))) only [↓app_append, ↓famO, ↓app0, ↓appC, ↓updS, ↓updN, ↓hpS, ↓hpN]) <;> first | rfl | assumption) | assumption | rfl)) (fun i hi => by (simp (disch := omega) only [↓appC, ↓updN, ↓app0]); exact famA (w := (fun i => 3 + 1 + 4 * i + 3)) (fun a b _ _ e => by (try dsimp only at e); omega) hi) (by (first | ((simp (disch := omega) only [↓app0, ↓appC, ↓updS, ↓updN, ↓hpS, ↓hpN]) <;> first | rfl | assumption) | ((simp (disch := (first | omega | (intro _ _; dsimp only; omega))) only [↓app_append, ↓famO, ↓app0, ↓appC, ↓updS, ↓updN, ↓hpS, ↓hpN]) <;> first | rfl | assumption) | assumption | rfl)) rfl rfl) SnapL.nil
theorem s39 (a : An) : Pure En 39 [.agg a.T, .agg a.T] [.one (.bool true)] := by
  refine Pure.of_wp Try.func39 rfl (Nat.le_of_ble_eq_true rfl) ?_
  refine wSeq ?_
  refine wRegion ?_
  refine rbx (u := .agg [.int _ _, .int _ _, .int _ _, .int _ _]) rfl rfl rfl rfl rfl rfl rfl ?_
  refine rbx (u := .agg [.int _ _, .int _ _, .int _ _, .int _ _]) rfl rfl rfl rfl rfl rfl rfl ?_
  refine raB rfl rfl rfl rfl rfl ?_
  refine rNil ?_
  refine qSeq ?_
  refine wSeq ?_
  refine wSeq ?_
  refine wRegion ?_
  refine rfa (off := 0) (s := 1) (r := false) rfl rfl rfl (Nat.succ_ne_zero _) rfl rfl rfl ?_
  (apply rlc (v := .int _ _) rfl rfl; (first | ((simp (disch := omega) only [↓app0, ↓appC, ↓updS, ↓updN, ↓hpS, ↓hpN]) <;> first | rfl | assumption) | assumption | rfl); rfl; rfl; rfl; rfl; rfl; rfl)
  refine rfa (off := 0) (s := 1) (r := false) rfl rfl rfl (Nat.succ_ne_zero _) rfl rfl rfl ?_
  (apply rlc (v := .int _ _) rfl rfl; (first | ((simp (disch := omega) only [↓app0, ↓appC, ↓updS, ↓updN, ↓hpS, ↓hpN]) <;> first | rfl | assumption) | assumption | rfl); rfl; rfl; rfl; rfl; rfl; rfl)
  refine rne rfl rfl rfl rfl rfl rfl ?_ ?_ <;> intro h1_4
  · refine rNil ?_
    refine qSeq ?_
    refine wT rfl ?_
    refine wSeq ?_
    refine wRegion ?_
    refine raB rfl rfl rfl rfl rfl ?_
    refine rNil ?_
    refine qSeq ?_
    refine wRet ?_
    refine qSeqR ?_
    first | exact fin rfl rfl | exact absurd rfl h1_4 | exact absurd rfl h3_4 | exact absurd rfl h5_4 | exact absurd rfl h7_4
  · refine rNil ?_
    refine qSeq ?_
    refine wF rfl ?_
    refine wSkip ?_
    refine qSeq ?_
    refine wSeq ?_
    refine wSeq ?_
    refine wRegion ?_
    refine rfa (off := 1) (s := 1) (r := false) rfl rfl rfl (Nat.succ_ne_zero _) rfl rfl rfl ?_
    (apply rlc (v := .int _ _) rfl rfl; (first | ((simp (disch := omega) only [↓app0, ↓appC, ↓updS, ↓updN, ↓hpS, ↓hpN]) <;> first | rfl | assumption) | assumption | rfl); rfl; rfl; rfl; rfl; rfl; rfl)
    refine rfa (off := 1) (s := 1) (r := false) rfl rfl rfl (Nat.succ_ne_zero _) rfl rfl rfl ?_
    (apply rlc (v := .int _ _) rfl rfl; (first | ((simp (disch := omega) only [↓app0, ↓appC, ↓updS, ↓updN, ↓hpS, ↓hpN]) <;> first | rfl | assumption) | assumption | rfl); rfl; rfl; rfl; rfl; rfl; rfl)
    refine rne rfl rfl rfl rfl rfl rfl ?_ ?_ <;> intro h3_4
    · refine rNil ?_
      refine qSeq ?_
      refine wT rfl ?_
      refine wSeq ?_
      refine wRegion ?_
      refine raB rfl rfl rfl rfl rfl ?_
      refine rNil ?_
      refine qSeq ?_
      refine wRet ?_
      refine qSeqR ?_
      first | exact fin rfl rfl | exact absurd rfl h1_4 | exact absurd rfl h3_4 | exact absurd rfl h5_4 | exact absurd rfl h7_4
    · refine rNil ?_
      refine qSeq ?_
      refine wF rfl ?_
      refine wSkip ?_
      refine qSeq ?_
      refine wSeq ?_
      refine wSeq ?_
      refine wRegion ?_
      refine rfa (off := 2) (s := 1) (r := false) rfl rfl rfl (Nat.succ_ne_zero _) rfl rfl rfl ?_
      (apply rlc (v := .int _ _) rfl rfl; (first | ((simp (disch := omega) only [↓app0, ↓appC, ↓updS, ↓updN, ↓hpS, ↓hpN]) <;> first | rfl | assumption) | assumption | rfl); rfl; rfl; rfl; rfl; rfl; rfl)
      refine rfa (off := 2) (s := 1) (r := false) rfl rfl rfl (Nat.succ_ne_zero _) rfl rfl rfl ?_
      (apply rlc (v := .int _ _) rfl rfl; (first | ((simp (disch := omega) only [↓app0, ↓appC, ↓updS, ↓updN, ↓hpS, ↓hpN]) <;> first | rfl | assumption) | assumption | rfl); rfl; rfl; rfl; rfl; rfl; rfl)
      refine rne rfl rfl rfl rfl rfl rfl ?_ ?_ <;> intro h5_4
      · refine rNil ?_
        refine qSeq ?_
        refine wT rfl ?_
        refine wSeq ?_
        refine wRegion ?_
        refine raB rfl rfl rfl rfl rfl ?_
        refine rNil ?_
        refine qSeq ?_
        refine wRet ?_
        refine qSeqR ?_
        first | exact fin rfl rfl | exact absurd rfl h1_4 | exact absurd rfl h3_4 | exact absurd rfl h5_4 | exact absurd rfl h7_4
      · refine rNil ?_
        refine qSeq ?_
        refine wF rfl ?_
        refine wSkip ?_
        refine qSeq ?_
        refine wSeq ?_
        refine wSeq ?_
        refine wRegion ?_
        refine rfa (off := 3) (s := 1) (r := false) rfl rfl rfl (Nat.succ_ne_zero _) rfl rfl rfl ?_
        (apply rlc (v := .int _ _) rfl rfl; (first | ((simp (disch := omega) only [↓app0, ↓appC, ↓updS, ↓updN, ↓hpS, ↓hpN]) <;> first | rfl | assumption) | assumption | rfl); rfl; rfl; rfl; rfl; rfl; rfl)
        refine rfa (off := 3) (s := 1) (r := false) rfl rfl rfl (Nat.succ_ne_zero _) rfl rfl rfl ?_
        (apply rlc (v := .int _ _) rfl rfl; (first | ((simp (disch := omega) only [↓app0, ↓appC, ↓updS, ↓updN, ↓hpS, ↓hpN]) <;> first | rfl | assumption) | assumption | rfl); rfl; rfl; rfl; rfl; rfl; rfl)
        refine rne rfl rfl rfl rfl rfl rfl ?_ ?_ <;> intro h7_4
        · refine rNil ?_
          refine qSeq ?_
          refine wT rfl ?_
          refine wSeq ?_
          refine wRegion ?_
          refine raB rfl rfl rfl rfl rfl ?_
          refine rNil ?_
          refine qSeq ?_
          refine wRet ?_
          refine qSeqR ?_
          first | exact fin rfl rfl | exact absurd rfl h1_4 | exact absurd rfl h3_4 | exact absurd rfl h5_4 | exact absurd rfl h7_4
        · refine rNil ?_
          refine qSeq ?_
          refine wF rfl ?_
          refine wSkip ?_
          refine qSeq ?_
          refine wSeq ?_
          refine wRegion ?_
          refine raB rfl rfl rfl rfl rfl ?_
          refine rNil ?_
          refine qSeq ?_
          refine wRet ?_
          first | exact fin rfl rfl | exact absurd rfl h1_4 | exact absurd rfl h3_4 | exact absurd rfl h5_4 | exact absurd rfl h7_4
theorem s92 (a : Wt) : Pure En 92 [.agg (wtT a), .agg (wtT a)] [.one (.bool true)] := by
  refine Pure.of_wp Try.func92 rfl (Nat.le_of_ble_eq_true rfl) ?_
  refine wSeq ?_
  refine wRegion ?_
  refine rbx (u := .agg [.int _ _, .int _ _]) rfl rfl rfl rfl rfl rfl rfl ?_
  refine rbx (u := .agg [.int _ _, .int _ _]) rfl rfl rfl rfl rfl rfl rfl ?_
  refine raB rfl rfl rfl rfl rfl ?_
  refine rNil ?_
  refine qSeq ?_
  refine wSeq ?_
  refine wSeq ?_
  refine wRegion ?_
  refine rfa (off := 0) (s := 1) (r := false) rfl rfl rfl (Nat.succ_ne_zero _) rfl rfl rfl ?_
  (apply rlc (v := .int _ _) rfl rfl; (first | ((simp (disch := omega) only [↓app0, ↓appC, ↓updS, ↓updN, ↓hpS, ↓hpN]) <;> first | rfl | assumption) | assumption | rfl); rfl; rfl; rfl; rfl; rfl; rfl)
  refine rfa (off := 0) (s := 1) (r := false) rfl rfl rfl (Nat.succ_ne_zero _) rfl rfl rfl ?_
  (apply rlc (v := .int _ _) rfl rfl; (first | ((simp (disch := omega) only [↓app0, ↓appC, ↓updS, ↓updN, ↓hpS, ↓hpN]) <;> first | rfl | assumption) | assumption | rfl); rfl; rfl; rfl; rfl; rfl; rfl)
  refine rne rfl rfl rfl rfl rfl rfl ?_ ?_ <;> intro h1_4
  · refine rNil ?_
    refine qSeq ?_
    refine wT rfl ?_
    refine wSeq ?_
    refine wRegion ?_
    refine raB rfl rfl rfl rfl rfl ?_
    refine rNil ?_
    refine qSeq ?_
    refine wRet ?_
    refine qSeqR ?_
    first | exact fin rfl rfl | exact absurd rfl h1_4 | exact absurd rfl h3_4
  · refine rNil ?_
    refine qSeq ?_
    refine wF rfl ?_
    refine wSkip ?_
    refine qSeq ?_
    refine wSeq ?_
    refine wSeq ?_
    refine wRegion ?_
    refine rfa (off := 1) (s := 1) (r := false) rfl rfl rfl (Nat.succ_ne_zero _) rfl rfl rfl ?_
    (apply rlc (v := .int _ _) rfl rfl; (first | ((simp (disch := omega) only [↓app0, ↓appC, ↓updS, ↓updN, ↓hpS, ↓hpN]) <;> first | rfl | assumption) | assumption | rfl); rfl; rfl; rfl; rfl; rfl; rfl)
    refine rfa (off := 1) (s := 1) (r := false) rfl rfl rfl (Nat.succ_ne_zero _) rfl rfl rfl ?_
    (apply rlc (v := .int _ _) rfl rfl; (first | ((simp (disch := omega) only [↓app0, ↓appC, ↓updS, ↓updN, ↓hpS, ↓hpN]) <;> first | rfl | assumption) | assumption | rfl); rfl; rfl; rfl; rfl; rfl; rfl)
    refine rne rfl rfl rfl rfl rfl rfl ?_ ?_ <;> intro h3_4
    · refine rNil ?_
      refine qSeq ?_
      refine wT rfl ?_
      refine wSeq ?_
      refine wRegion ?_
      refine raB rfl rfl rfl rfl rfl ?_
      refine rNil ?_
      refine qSeq ?_
      refine wRet ?_
      refine qSeqR ?_
      first | exact fin rfl rfl | exact absurd rfl h1_4 | exact absurd rfl h3_4
    · refine rNil ?_
      refine qSeq ?_
      refine wF rfl ?_
      refine wSkip ?_
      refine qSeq ?_
      refine wSeq ?_
      refine wRegion ?_
      refine raB rfl rfl rfl rfl rfl ?_
      refine rNil ?_
      refine qSeq ?_
      refine wRet ?_
      first | exact fin rfl rfl | exact absurd rfl h1_4 | exact absurd rfl h3_4
theorem s93 (s : Sn) : Pure En 93 [.agg s.T, .agg s.T] [.one (.bool true)] := by
  refine Pure.of_wp Try.func93 rfl (Nat.le_of_ble_eq_true rfl) ?_
  refine wSeq ?_
  refine wRegion ?_
  refine rbx (u := .agg [.int _ _, .int _ _, .int _ _, .int _ _, .int _ _, .int _ _]) rfl rfl rfl rfl rfl rfl rfl ?_
  refine rbx (u := .agg [.int _ _, .int _ _, .int _ _, .int _ _, .int _ _, .int _ _]) rfl rfl rfl rfl rfl rfl rfl ?_
  refine raB rfl rfl rfl rfl rfl ?_
  refine rNil ?_
  refine qSeq ?_
  refine wSeq ?_
  refine wSeq ?_
  refine wRegion ?_
  refine rfa (off := 0) (s := 1) (r := false) rfl rfl rfl (Nat.succ_ne_zero _) rfl rfl rfl ?_
  (apply rlc (v := .int _ _) rfl rfl; (first | ((simp (disch := omega) only [↓app0, ↓appC, ↓updS, ↓updN, ↓hpS, ↓hpN]) <;> first | rfl | assumption) | assumption | rfl); rfl; rfl; rfl; rfl; rfl; rfl)
  refine rfa (off := 0) (s := 1) (r := false) rfl rfl rfl (Nat.succ_ne_zero _) rfl rfl rfl ?_
  (apply rlc (v := .int _ _) rfl rfl; (first | ((simp (disch := omega) only [↓app0, ↓appC, ↓updS, ↓updN, ↓hpS, ↓hpN]) <;> first | rfl | assumption) | assumption | rfl); rfl; rfl; rfl; rfl; rfl; rfl)
  refine rne rfl rfl rfl rfl rfl rfl ?_ ?_ <;> intro h1_4
  · refine rNil ?_
    refine qSeq ?_
    refine wT rfl ?_
    refine wSeq ?_
    refine wRegion ?_
    refine raB rfl rfl rfl rfl rfl ?_
    refine rNil ?_
    refine qSeq ?_
    refine wRet ?_
    refine qSeqR ?_
    first | exact fin rfl rfl | exact absurd rfl h1_4 | exact absurd rfl h3_4
  · refine rNil ?_
    refine qSeq ?_
    refine wF rfl ?_
    refine wSkip ?_
    refine qSeq ?_
    refine wSeq ?_
    refine wSeq ?_
    refine wRegion ?_
    refine rfa (off := 1) (s := 1) (r := false) rfl rfl rfl (Nat.succ_ne_zero _) rfl rfl rfl ?_
    (apply rlc (v := .int _ _) rfl rfl; (first | ((simp (disch := omega) only [↓app0, ↓appC, ↓updS, ↓updN, ↓hpS, ↓hpN]) <;> first | rfl | assumption) | assumption | rfl); rfl; rfl; rfl; rfl; rfl; rfl)
    refine rfa (off := 1) (s := 1) (r := false) rfl rfl rfl (Nat.succ_ne_zero _) rfl rfl rfl ?_
    (apply rlc (v := .int _ _) rfl rfl; (first | ((simp (disch := omega) only [↓app0, ↓appC, ↓updS, ↓updN, ↓hpS, ↓hpN]) <;> first | rfl | assumption) | assumption | rfl); rfl; rfl; rfl; rfl; rfl; rfl)
    refine rne rfl rfl rfl rfl rfl rfl ?_ ?_ <;> intro h3_4
    · refine rNil ?_
      refine qSeq ?_
      refine wT rfl ?_
      refine wSeq ?_
      refine wRegion ?_
      refine raB rfl rfl rfl rfl rfl ?_
      refine rNil ?_
      refine qSeq ?_
      refine wRet ?_
      refine qSeqR ?_
      first | exact fin rfl rfl | exact absurd rfl h1_4 | exact absurd rfl h3_4
    · refine rNil ?_
      refine qSeq ?_
      refine wF rfl ?_
      refine wSkip ?_
      refine qSeq ?_
      refine wSeq ?_
      refine wSeq ?_
      refine wRegion ?_
      refine rfa (off := 2) (s := 4) (r := true) rfl rfl rfl (Nat.succ_ne_zero _) rfl rfl rfl ?_
      (apply rlr (vs := [.int _ _, .int _ _, .int _ _, .int _ _]) rfl rfl; (first | ((simp (disch := omega) only [↓app0, ↓appC, ↓updS, ↓updN, ↓hpS, ↓hpN]) <;> first | rfl | assumption) | assumption | rfl); rfl; rfl; (exact Nat.le_of_ble_eq_true rfl); rfl; rfl; rfl; rfl)
      refine rfa (off := 2) (s := 4) (r := true) rfl rfl rfl (Nat.succ_ne_zero _) rfl rfl rfl ?_
      (apply rlr (vs := [.int _ _, .int _ _, .int _ _, .int _ _]) rfl rfl; (first | ((simp (disch := omega) only [↓app0, ↓appC, ↓updS, ↓updN, ↓hpS, ↓hpN]) <;> first | rfl | assumption) | assumption | rfl); rfl; rfl; (exact Nat.le_of_ble_eq_true rfl); rfl; rfl; rfl; rfl)
      refine rcl (s39 s.an) rfl rfl rfl rfl rfl rfl ?_
      refine rnot (c := true) rfl rfl rfl rfl rfl ?_
      refine rNil ?_
      refine qSeq ?_
      refine wF rfl ?_
      refine wSkip ?_
      refine qSeq ?_
      refine wSeq ?_
      refine wRegion ?_
      refine raB rfl rfl rfl rfl rfl ?_
      refine rNil ?_
      refine qSeq ?_
      refine wRet ?_
      first | exact fin rfl rfl | exact absurd rfl h1_4 | exact absurd rfl h3_4
theorem s50 (n1 n2 : Bool) (L : List Wt) (hL : L.length ≤ 1048577) : Pure En 50 [.one (.sl n1 (L.map (wtT))), .one (.sl n2 (L.map (wtT)))] [.one (.bool true)] := by
  have hl : (L.map (wtT)).length = L.length := List.length_map ..
  have hl2 : (L.map (wtT)).length = L.length := List.length_map ..
  refine Pure.of_wp Try.func50 rfl (Nat.le_of_ble_eq_true rfl) ?_
  refine wSeq ?_
  refine wRegion ?_
  refine raB rfl rfl rfl rfl rfl ?_
  refine rNil ?_
  refine qSeq ?_
  refine wSeq ?_
  refine wSeq ?_
  refine wRegion ?_
  refine rmL rfl rfl rfl rfl rfl ?_
  refine rll rfl rfl rfl rfl rfl rfl ?_
  refine rmL rfl rfl rfl rfl rfl ?_
  refine rll rfl rfl rfl rfl rfl rfl ?_
  refine rne rfl rfl rfl rfl rfl rfl ?_ ?_ <;> intro h1_4
  · refine rNil ?_
    refine qSeq ?_
    refine wT rfl ?_
    refine wSeq ?_
    refine wRegion ?_
    refine raB rfl rfl rfl rfl rfl ?_
    refine rNil ?_
    refine qSeq ?_
    refine wRet ?_
    refine qSeqR ?_
    first | exact fin rfl rfl | exact absurd rfl h1_4 | exact absurd (hl.trans hl2.symm) (by assumption) | omega
  · refine rNil ?_
    refine qSeq ?_
    refine wF rfl ?_
    refine wSkip ?_
    refine qSeq ?_
    refine wSeq ?_
    refine wSeq ?_
    refine wRegion ?_
    refine raI rfl rfl rfl rfl rfl ?_
    refine rNil ?_
    refine qSeq ?_
    refine wBlock ?_
    refine wLoop ?_
    refine loopGo0 (fun (i : Nat) => [.sl false n1 (L.map (wtT)), .sl false n2 (L.map (wtT)), .unk, .unk, .unk, .int .i64 i]) (fun (i : Nat) => i ≤ L.length) (fun (i : Nat) => L.length - i) 0 ?_ ?_ ?_
    · exact Nat.zero_le _
    · (repeat first | exact LE.nil _ | refine LE.unk _ _ ?_ | refine LE.eq _ _ _ rfl ?_)
    intro i hI ih
    refine lStep ?_
    refine wSeq ?_
    refine wSeq ?_
    refine wRegion ?_
    refine rmI rfl rfl rfl rfl rfl ?_
    refine rmL rfl rfl rfl rfl rfl ?_
    refine rll rfl rfl rfl rfl rfl rfl ?_
    refine rlt rfl rfl rfl rfl rfl rfl ?_ ?_ <;> intro h4_3
    · refine rNil ?_
      refine qSeq ?_
      refine wT rfl ?_
      refine wSkip ?_
      refine qSeq ?_
      refine wSeq ?_
      refine wBlock ?_
      refine wSeq ?_
      refine wDraw [0, 0, 3, 7, 0, 0, 48, 112, 255, 511] rfl (by decide +kernel) ?_
      refine dmL rfl rfl rfl rfl rfl ?_
      refine dmI rfl rfl rfl rfl rfl ?_
      (apply dixl rfl rfl rfl rfl; (first | omega | assumption | (focus (simp; omega))); (first | rfl | assumption | (first | exact getMap (wtT) (0, 0) (k := i) (by omega) | exact getMap (wtT) (0, 0) (k := i) (by omega))); rfl; rfl; rfl; rfl)
      refine dlir (vs := [.int _ _, .int _ _]) rfl rfl rfl (Nat.le_of_ble_eq_true rfl) rfl rfl rfl rfl ?_
      refine dmL rfl rfl rfl rfl rfl ?_
      refine dmI rfl rfl rfl rfl rfl ?_
      (apply dixl rfl rfl rfl rfl; (first | omega | assumption | (focus (simp; omega))); (first | rfl | assumption | (first | exact getMap (wtT) (0, 0) (k := i) (by omega) | exact getMap (wtT) (0, 0) (k := i) (by omega))); rfl; rfl; rfl; rfl)
      refine dlir (vs := [.int _ _, .int _ _]) rfl rfl rfl (Nat.le_of_ble_eq_true rfl) rfl rfl rfl rfl ?_
      refine dcl (s92 (L.getD i (0, 0))) rfl rfl rfl rfl rfl rfl ?_
      refine dnot (c := true) rfl rfl rfl rfl rfl ?_
      refine dNilR 10 [0, 0, 0, 0, 0, 0, 0, 0, 0, 0] [] rfl rfl (by decide +kernel) trivial ?_
      refine qSeq ?_
      refine wF rfl ?_
      refine wSkip ?_
      refine qBlock ?_
      refine qSeq ?_
      refine wRegion ?_
      refine rmI rfl rfl rfl rfl rfl ?_
      refine raddF rfl rfl rfl ?_ ?_ rfl rfl rfl ?_
      · (first | omega | assumption | (focus (simp; omega)))
      · (first | omega | assumption | (focus (simp; omega)))
      refine raI rfl rfl rfl rfl rfl ?_
      refine rNil ?_
      refine qLoop ?_
      exact wlN (ih (i + 1) (by omega) (by omega)) (by (repeat first | exact LE.nil _ | refine LE.unk _ _ ?_ | refine LE.eq _ _ _ rfl ?_))
    · refine rNil ?_
      refine qSeq ?_
      refine wF rfl ?_
      refine wExit ?_
      refine qSeqX ?_
      refine qLoopX ?_
      refine qBlockX ?_
      refine qSeq ?_
      refine wSeq ?_
      refine wRegion ?_
      refine raB rfl rfl rfl rfl rfl ?_
      refine rNil ?_
      refine qSeq ?_
      refine wRet ?_
      first | exact fin rfl rfl | exact absurd rfl h1_4 | exact absurd (hl.trans hl2.symm) (by assumption) | omega
theorem s13 (b1 b2 : Bool) (l : Lk) (hL : l.ws.length ≤ 1048577) : Pure En 13 [.agg (l.T b1), .agg (l.T b2)] [.one (.bool true)] := by
  refine Pure.of_wp Try.func13 rfl (Nat.le_of_ble_eq_true rfl) ?_
  refine wSeq ?_
  refine wRegion ?_
  refine rbx (u := .agg [.str _, .int _ _, .int _ _, .int _ _, _]) rfl rfl rfl rfl rfl rfl rfl ?_
  refine rbx (u := .agg [.str _, .int _ _, .int _ _, .int _ _, _]) rfl rfl rfl rfl rfl rfl rfl ?_
  refine raB rfl rfl rfl rfl rfl ?_
  refine rNil ?_
  refine qSeq ?_
  refine wSeq ?_
  refine wSeq ?_
  refine wRegion ?_
  refine rfa (off := 0) (s := 1) (r := false) rfl rfl rfl (Nat.succ_ne_zero _) rfl rfl rfl ?_
  (apply rlc (v := .str _) rfl rfl; (first | ((simp (disch := omega) only [↓app0, ↓appC, ↓updS, ↓updN, ↓hpS, ↓hpN]) <;> first | rfl | assumption) | assumption | rfl); rfl; rfl; rfl; rfl; rfl; rfl)
  refine rfa (off := 0) (s := 1) (r := false) rfl rfl rfl (Nat.succ_ne_zero _) rfl rfl rfl ?_
  (apply rlc (v := .str _) rfl rfl; (first | ((simp (disch := omega) only [↓app0, ↓appC, ↓updS, ↓updN, ↓hpS, ↓hpN]) <;> first | rfl | assumption) | assumption | rfl); rfl; rfl; rfl; rfl; rfl; rfl)
  refine rsne rfl rfl rfl rfl rfl rfl ?_ ?_ <;> intro h1_4
  · refine rNil ?_
    refine qSeq ?_
    refine wT rfl ?_
    refine wSeq ?_
    refine wRegion ?_
    refine raB rfl rfl rfl rfl rfl ?_
    refine rNil ?_
    refine qSeq ?_
    refine wRet ?_
    refine qSeqR ?_
    first | exact fin rfl rfl | exact absurd rfl h1_4 | exact absurd rfl h3_4 | exact absurd rfl h5_4 | exact absurd rfl h7_4
  · refine rNil ?_
    refine qSeq ?_
    refine wF rfl ?_
    refine wSkip ?_
    refine qSeq ?_
    refine wSeq ?_
    refine wSeq ?_
    refine wRegion ?_
    refine rfa (off := 1) (s := 1) (r := false) rfl rfl rfl (Nat.succ_ne_zero _) rfl rfl rfl ?_
    (apply rlc (v := .int _ _) rfl rfl; (first | ((simp (disch := omega) only [↓app0, ↓appC, ↓updS, ↓updN, ↓hpS, ↓hpN]) <;> first | rfl | assumption) | assumption | rfl); rfl; rfl; rfl; rfl; rfl; rfl)
    refine rfa (off := 1) (s := 1) (r := false) rfl rfl rfl (Nat.succ_ne_zero _) rfl rfl rfl ?_
    (apply rlc (v := .int _ _) rfl rfl; (first | ((simp (disch := omega) only [↓app0, ↓appC, ↓updS, ↓updN, ↓hpS, ↓hpN]) <;> first | rfl | assumption) | assumption | rfl); rfl; rfl; rfl; rfl; rfl; rfl)
    refine rne rfl rfl rfl rfl rfl rfl ?_ ?_ <;> intro h3_4
    · refine rNil ?_
      refine qSeq ?_
      refine wT rfl ?_
      refine wSeq ?_
      refine wRegion ?_
      refine raB rfl rfl rfl rfl rfl ?_
      refine rNil ?_
      refine qSeq ?_
      refine wRet ?_
      refine qSeqR ?_
      first | exact fin rfl rfl | exact absurd rfl h1_4 | exact absurd rfl h3_4 | exact absurd rfl h5_4 | exact absurd rfl h7_4
    · refine rNil ?_
      refine qSeq ?_
      refine wF rfl ?_
      refine wSkip ?_
      refine qSeq ?_
      refine wSeq ?_
      refine wSeq ?_
      refine wRegion ?_
      refine rfa (off := 2) (s := 1) (r := false) rfl rfl rfl (Nat.succ_ne_zero _) rfl rfl rfl ?_
      (apply rlc (v := .int _ _) rfl rfl; (first | ((simp (disch := omega) only [↓app0, ↓appC, ↓updS, ↓updN, ↓hpS, ↓hpN]) <;> first | rfl | assumption) | assumption | rfl); rfl; rfl; rfl; rfl; rfl; rfl)
      refine rfa (off := 2) (s := 1) (r := false) rfl rfl rfl (Nat.succ_ne_zero _) rfl rfl rfl ?_
      (apply rlc (v := .int _ _) rfl rfl; (first | ((simp (disch := omega) only [↓app0, ↓appC, ↓updS, ↓updN, ↓hpS, ↓hpN]) <;> first | rfl | assumption) | assumption | rfl); rfl; rfl; rfl; rfl; rfl; rfl)
      refine rne rfl rfl rfl rfl rfl rfl ?_ ?_ <;> intro h5_4
      · refine rNil ?_
        refine qSeq ?_
        refine wT rfl ?_
        refine wSeq ?_
        refine wRegion ?_
        refine raB rfl rfl rfl rfl rfl ?_
        refine rNil ?_
        refine qSeq ?_
        refine wRet ?_
        refine qSeqR ?_
        first | exact fin rfl rfl | exact absurd rfl h1_4 | exact absurd rfl h3_4 | exact absurd rfl h5_4 | exact absurd rfl h7_4
      · refine rNil ?_
        refine qSeq ?_
        refine wF rfl ?_
        refine wSkip ?_
        refine qSeq ?_
        refine wSeq ?_
        refine wSeq ?_
        refine wRegion ?_
        refine rfa (off := 3) (s := 1) (r := false) rfl rfl rfl (Nat.succ_ne_zero _) rfl rfl rfl ?_
        (apply rlc (v := .int _ _) rfl rfl; (first | ((simp (disch := omega) only [↓app0, ↓appC, ↓updS, ↓updN, ↓hpS, ↓hpN]) <;> first | rfl | assumption) | assumption | rfl); rfl; rfl; rfl; rfl; rfl; rfl)
        refine rfa (off := 3) (s := 1) (r := false) rfl rfl rfl (Nat.succ_ne_zero _) rfl rfl rfl ?_
        (apply rlc (v := .int _ _) rfl rfl; (first | ((simp (disch := omega) only [↓app0, ↓appC, ↓updS, ↓updN, ↓hpS, ↓hpN]) <;> first | rfl | assumption) | assumption | rfl); rfl; rfl; rfl; rfl; rfl; rfl)
        refine rne rfl rfl rfl rfl rfl rfl ?_ ?_ <;> intro h7_4
        · refine rNil ?_
          refine qSeq ?_
          refine wT rfl ?_
          refine wSeq ?_
          refine wRegion ?_
          refine raB rfl rfl rfl rfl rfl ?_
          refine rNil ?_
          refine qSeq ?_
          refine wRet ?_
          refine qSeqR ?_
          first | exact fin rfl rfl | exact absurd rfl h1_4 | exact absurd rfl h3_4 | exact absurd rfl h5_4 | exact absurd rfl h7_4
        · refine rNil ?_
          refine qSeq ?_
          refine wF rfl ?_
          refine wSkip ?_
          refine qSeq ?_
          refine wSeq ?_
          refine wSeq ?_
          refine wRegion ?_
          refine rfa (off := 4) (s := 1) (r := false) rfl rfl rfl (Nat.succ_ne_zero _) rfl rfl rfl ?_
          (apply rlc (v := .sl _ _ _) rfl rfl; (first | ((simp (disch := omega) only [↓app0, ↓appC, ↓updS, ↓updN, ↓hpS, ↓hpN]) <;> first | rfl | assumption) | assumption | rfl); rfl; rfl; rfl; rfl; rfl; rfl)
          refine rfa (off := 4) (s := 1) (r := false) rfl rfl rfl (Nat.succ_ne_zero _) rfl rfl rfl ?_
          (apply rlc (v := .sl _ _ _) rfl rfl; (first | ((simp (disch := omega) only [↓app0, ↓appC, ↓updS, ↓updN, ↓hpS, ↓hpN]) <;> first | rfl | assumption) | assumption | rfl); rfl; rfl; rfl; rfl; rfl; rfl)
          refine rcl (s50 b1 b2 l.ws hL) rfl rfl rfl rfl rfl rfl ?_
          refine rnot (c := true) rfl rfl rfl rfl rfl ?_
          refine rNil ?_
          refine qSeq ?_
          refine wF rfl ?_
          refine wSkip ?_
          refine qSeq ?_
          refine wSeq ?_
          refine wRegion ?_
          refine raB rfl rfl rfl rfl rfl ?_
          refine rNil ?_
          refine qSeq ?_
          refine wRet ?_
          first | exact fin rfl rfl | exact absurd rfl h1_4 | exact absurd rfl h3_4 | exact absurd rfl h5_4 | exact absurd rfl h7_4
theorem s52 (n1 n2 : Bool) (L : List Sn) (hL : L.length ≤ 1048577) : Pure En 52 [.one (.sl n1 (L.map (Sn.T))), .one (.sl n2 (L.map (Sn.T)))] [.one (.bool true)] := by
  have hl : (L.map (Sn.T)).length = L.length := List.length_map ..
  have hl2 : (L.map (Sn.T)).length = L.length := List.length_map ..
  refine Pure.of_wp Try.func52 rfl (Nat.le_of_ble_eq_true rfl) ?_
  refine wSeq ?_
  refine wRegion ?_
  refine raB rfl rfl rfl rfl rfl ?_
  refine rNil ?_
  refine qSeq ?_
  refine wSeq ?_
  refine wSeq ?_
  refine wRegion ?_
  refine rmL rfl rfl rfl rfl rfl ?_
  refine rll rfl rfl rfl rfl rfl rfl ?_
  refine rmL rfl rfl rfl rfl rfl ?_
  refine rll rfl rfl rfl rfl rfl rfl ?_
  refine rne rfl rfl rfl rfl rfl rfl ?_ ?_ <;> intro h1_4
  · refine rNil ?_
    refine qSeq ?_
    refine wT rfl ?_
    refine wSeq ?_
    refine wRegion ?_
    refine raB rfl rfl rfl rfl rfl ?_
    refine rNil ?_
    refine qSeq ?_
    refine wRet ?_
    refine qSeqR ?_
    first | exact fin rfl rfl | exact absurd rfl h1_4 | exact absurd (hl.trans hl2.symm) (by assumption) | omega
  · refine rNil ?_
    refine qSeq ?_
    refine wF rfl ?_
    refine wSkip ?_
    refine qSeq ?_
    refine wSeq ?_
    refine wSeq ?_
    refine wRegion ?_
    refine raI rfl rfl rfl rfl rfl ?_
    refine rNil ?_
    refine qSeq ?_
    refine wBlock ?_
    refine wLoop ?_
    refine loopGo0 (fun (i : Nat) => [.sl false n1 (L.map (Sn.T)), .sl false n2 (L.map (Sn.T)), .unk, .unk, .unk, .int .i64 i]) (fun (i : Nat) => i ≤ L.length) (fun (i : Nat) => L.length - i) 0 ?_ ?_ ?_
    · exact Nat.zero_le _
    · (repeat first | exact LE.nil _ | refine LE.unk _ _ ?_ | refine LE.eq _ _ _ rfl ?_)
    intro i hI ih
    refine lStep ?_
    refine wSeq ?_
    refine wSeq ?_
    refine wRegion ?_
    refine rmI rfl rfl rfl rfl rfl ?_
    refine rmL rfl rfl rfl rfl rfl ?_
    refine rll rfl rfl rfl rfl rfl rfl ?_
    refine rlt rfl rfl rfl rfl rfl rfl ?_ ?_ <;> intro h4_3
    · refine rNil ?_
      refine qSeq ?_
      refine wT rfl ?_
      refine wSkip ?_
      refine qSeq ?_
      refine wSeq ?_
      refine wBlock ?_
      refine wSeq ?_
      refine wDraw [0, 0, 3, 7, 0, 0, 48, 112, 255, 511] rfl (by decide +kernel) ?_
      refine dmL rfl rfl rfl rfl rfl ?_
      refine dmI rfl rfl rfl rfl rfl ?_
      (apply dixl rfl rfl rfl rfl; (first | omega | assumption | (focus (simp; omega))); (first | rfl | assumption | (first | exact getMap (Sn.T) Sn0 (k := i) (by omega) | exact getMap (Sn.T) Sn0 (k := i) (by omega))); rfl; rfl; rfl; rfl)
      refine dlir (vs := [.int _ _, .int _ _, .int _ _, .int _ _, .int _ _, .int _ _]) rfl rfl rfl (Nat.le_of_ble_eq_true rfl) rfl rfl rfl rfl ?_
      refine dmL rfl rfl rfl rfl rfl ?_
      refine dmI rfl rfl rfl rfl rfl ?_
      (apply dixl rfl rfl rfl rfl; (first | omega | assumption | (focus (simp; omega))); (first | rfl | assumption | (first | exact getMap (Sn.T) Sn0 (k := i) (by omega) | exact getMap (Sn.T) Sn0 (k := i) (by omega))); rfl; rfl; rfl; rfl)
      refine dlir (vs := [.int _ _, .int _ _, .int _ _, .int _ _, .int _ _, .int _ _]) rfl rfl rfl (Nat.le_of_ble_eq_true rfl) rfl rfl rfl rfl ?_
      refine dcl (s93 (L.getD i Sn0)) rfl rfl rfl rfl rfl rfl ?_
      refine dnot (c := true) rfl rfl rfl rfl rfl ?_
      refine dNilR 10 [0, 0, 0, 0, 0, 0, 0, 0, 0, 0] [] rfl rfl (by decide +kernel) trivial ?_
      refine qSeq ?_
      refine wF rfl ?_
      refine wSkip ?_
      refine qBlock ?_
      refine qSeq ?_
      refine wRegion ?_
      refine rmI rfl rfl rfl rfl rfl ?_
      refine raddF rfl rfl rfl ?_ ?_ rfl rfl rfl ?_
      · (first | omega | assumption | (focus (simp; omega)))
      · (first | omega | assumption | (focus (simp; omega)))
      refine raI rfl rfl rfl rfl rfl ?_
      refine rNil ?_
      refine qLoop ?_
      exact wlN (ih (i + 1) (by omega) (by omega)) (by (repeat first | exact LE.nil _ | refine LE.unk _ _ ?_ | refine LE.eq _ _ _ rfl ?_))
    · refine rNil ?_
      refine qSeq ?_
      refine wF rfl ?_
      refine wExit ?_
      refine qSeqX ?_
      refine qLoopX ?_
      refine qBlockX ?_
      refine qSeq ?_
      refine wSeq ?_
      refine wRegion ?_
      refine raB rfl rfl rfl rfl rfl ?_
      refine rNil ?_
      refine qSeq ?_
      refine wRet ?_
      first | exact fin rfl rfl | exact absurd rfl h1_4 | exact absurd (hl.trans hl2.symm) (by assumption) | omega
theorem s51 (n1 n2 : Bool) (b1 b2 : Bool) (L : List Lk) (hL : L.length ≤ 1048577) (hW : ∀ i, i < L.length → (L.getD i Lk0).ws.length ≤ 1048577) : Pure En 51 [.one (.sl n1 (L.map (Lk.T b1))), .one (.sl n2 (L.map (Lk.T b2)))] [.one (.bool true)] := by
  have hl : (L.map (Lk.T b1)).length = L.length := List.length_map ..
  have hl2 : (L.map (Lk.T b2)).length = L.length := List.length_map ..
  refine Pure.of_wp Try.func51 rfl (Nat.le_of_ble_eq_true rfl) ?_
  refine wSeq ?_
  refine wRegion ?_
  refine raB rfl rfl rfl rfl rfl ?_
  refine rNil ?_
  refine qSeq ?_
  refine wSeq ?_
  refine wSeq ?_
  refine wRegion ?_
  refine rmL rfl rfl rfl rfl rfl ?_
  refine rll rfl rfl rfl rfl rfl rfl ?_
  refine rmL rfl rfl rfl rfl rfl ?_
  refine rll rfl rfl rfl rfl rfl rfl ?_
  refine rne rfl rfl rfl rfl rfl rfl ?_ ?_ <;> intro h1_4
  · refine rNil ?_
    refine qSeq ?_
    refine wT rfl ?_
    refine wSeq ?_
    refine wRegion ?_
    refine raB rfl rfl rfl rfl rfl ?_
    refine rNil ?_
    refine qSeq ?_
    refine wRet ?_
    refine qSeqR ?_
    first | exact fin rfl rfl | exact absurd rfl h1_4 | exact absurd (hl.trans hl2.symm) (by assumption) | omega
  · refine rNil ?_
    refine qSeq ?_
    refine wF rfl ?_
    refine wSkip ?_
    refine qSeq ?_
    refine wSeq ?_
    refine wSeq ?_
    refine wRegion ?_
    refine raI rfl rfl rfl rfl rfl ?_
    refine rNil ?_
    refine qSeq ?_
    refine wBlock ?_
    refine wLoop ?_
    refine loopGo0 (fun (i : Nat) => [.sl false n1 (L.map (Lk.T b1)), .sl false n2 (L.map (Lk.T b2)), .unk, .unk, .unk, .int .i64 i]) (fun (i : Nat) => i ≤ L.length) (fun (i : Nat) => L.length - i) 0 ?_ ?_ ?_
    · exact Nat.zero_le _
    · (repeat first | exact LE.nil _ | refine LE.unk _ _ ?_ | refine LE.eq _ _ _ rfl ?_)
    intro i hI ih
    refine lStep ?_
    refine wSeq ?_
    refine wSeq ?_
    refine wRegion ?_
    refine rmI rfl rfl rfl rfl rfl ?_
    refine rmL rfl rfl rfl rfl rfl ?_
    refine rll rfl rfl rfl rfl rfl rfl ?_
    refine rlt rfl rfl rfl rfl rfl rfl ?_ ?_ <;> intro h4_3
    · refine rNil ?_
      refine qSeq ?_
      refine wT rfl ?_
      refine wSkip ?_
      refine qSeq ?_
      refine wSeq ?_
      refine wBlock ?_
      refine wSeq ?_
      refine wDraw [0, 0, 3, 7, 0, 0, 48, 112, 255, 511] rfl (by decide +kernel) ?_
      refine dmL rfl rfl rfl rfl rfl ?_
      refine dmI rfl rfl rfl rfl rfl ?_
      (apply dixl rfl rfl rfl rfl; (first | omega | assumption | (focus (simp; omega))); (first | rfl | assumption | (first | exact getMap (Lk.T b1) Lk0 (k := i) (by omega) | exact getMap (Lk.T b2) Lk0 (k := i) (by omega))); rfl; rfl; rfl; rfl)
      refine dlir (vs := [.str _, .int _ _, .int _ _, .int _ _, _]) rfl rfl rfl (Nat.le_of_ble_eq_true rfl) rfl rfl rfl rfl ?_
      refine dmL rfl rfl rfl rfl rfl ?_
      refine dmI rfl rfl rfl rfl rfl ?_
      (apply dixl rfl rfl rfl rfl; (first | omega | assumption | (focus (simp; omega))); (first | rfl | assumption | (first | exact getMap (Lk.T b1) Lk0 (k := i) (by omega) | exact getMap (Lk.T b2) Lk0 (k := i) (by omega))); rfl; rfl; rfl; rfl)
      refine dlir (vs := [.str _, .int _ _, .int _ _, .int _ _, _]) rfl rfl rfl (Nat.le_of_ble_eq_true rfl) rfl rfl rfl rfl ?_
      refine dcl (s13 b1 b2 (L.getD i Lk0) (hW i (by omega))) rfl rfl rfl rfl rfl rfl ?_
      refine dnot (c := true) rfl rfl rfl rfl rfl ?_
      refine dNilR 10 [0, 0, 0, 0, 0, 0, 0, 0, 0, 0] [] rfl rfl (by decide +kernel) trivial ?_
      refine qSeq ?_
      refine wF rfl ?_
      refine wSkip ?_
      refine qBlock ?_
      refine qSeq ?_
      refine wRegion ?_
      refine rmI rfl rfl rfl rfl rfl ?_
      refine raddF rfl rfl rfl ?_ ?_ rfl rfl rfl ?_
      · (first | omega | assumption | (focus (simp; omega)))
      · (first | omega | assumption | (focus (simp; omega)))
      refine raI rfl rfl rfl rfl rfl ?_
      refine rNil ?_
      refine qLoop ?_
      exact wlN (ih (i + 1) (by omega) (by omega)) (by (repeat first | exact LE.nil _ | refine LE.unk _ _ ?_ | refine LE.eq _ _ _ rfl ?_))
    · refine rNil ?_
      refine qSeq ?_
      refine wF rfl ?_
      refine wExit ?_
      refine qSeqX ?_
      refine qLoopX ?_
      refine qBlockX ?_
      refine qSeq ?_
      refine wSeq ?_
      refine wRegion ?_
      refine raB rfl rfl rfl rfl rfl ?_
      refine rNil ?_
      refine qSeq ?_
      refine wRet ?_
      first | exact fin rfl rfl | exact absurd rfl h1_4 | exact absurd (hl.trans hl2.symm) (by assumption) | omega
theorem s14 (t : Tb) (a1 a2 a3 b1 b2 b3 : Bool) (hL : t.lk.length ≤ 1048577) (hW : ∀ i, i < t.lk.length → (t.lk.getD i Lk0).ws.length ≤ 1048577) (hS : t.sn.length ≤ 1048577) : Pure En 14 [.agg (t.T a1 a2 a3), .agg (t.T b1 b2 b3)] [.one (.bool true)] := by
  refine Pure.of_wp Try.func14 rfl (Nat.le_of_ble_eq_true rfl) ?_
  refine wSeq ?_
  refine wRegion ?_
  refine rbx (u := .agg [.int _ _, .int _ _, _, _]) rfl rfl rfl rfl rfl rfl rfl ?_
  refine rbx (u := .agg [.int _ _, .int _ _, _, _]) rfl rfl rfl rfl rfl rfl rfl ?_
  refine raB rfl rfl rfl rfl rfl ?_
  refine rNil ?_
  refine qSeq ?_
  refine wSeq ?_
  refine wSeq ?_
  refine wRegion ?_
  refine rfa (off := 0) (s := 1) (r := false) rfl rfl rfl (Nat.succ_ne_zero _) rfl rfl rfl ?_
  (apply rlc (v := .int _ _) rfl rfl; (first | ((simp (disch := omega) only [↓app0, ↓appC, ↓updS, ↓updN, ↓hpS, ↓hpN]) <;> first | rfl | assumption) | assumption | rfl); rfl; rfl; rfl; rfl; rfl; rfl)
  refine rfa (off := 0) (s := 1) (r := false) rfl rfl rfl (Nat.succ_ne_zero _) rfl rfl rfl ?_
  (apply rlc (v := .int _ _) rfl rfl; (first | ((simp (disch := omega) only [↓app0, ↓appC, ↓updS, ↓updN, ↓hpS, ↓hpN]) <;> first | rfl | assumption) | assumption | rfl); rfl; rfl; rfl; rfl; rfl; rfl)
  refine rne rfl rfl rfl rfl rfl rfl ?_ ?_ <;> intro h1_4
  · refine rNil ?_
    refine qSeq ?_
    refine wT rfl ?_
    refine wSeq ?_
    refine wRegion ?_
    refine raB rfl rfl rfl rfl rfl ?_
    refine rNil ?_
    refine qSeq ?_
    refine wRet ?_
    refine qSeqR ?_
    first | exact fin rfl rfl | exact absurd rfl h1_4 | exact absurd rfl h3_4
  · refine rNil ?_
    refine qSeq ?_
    refine wF rfl ?_
    refine wSkip ?_
    refine qSeq ?_
    refine wSeq ?_
    refine wSeq ?_
    refine wRegion ?_
    refine rfa (off := 1) (s := 1) (r := false) rfl rfl rfl (Nat.succ_ne_zero _) rfl rfl rfl ?_
    (apply rlc (v := .int _ _) rfl rfl; (first | ((simp (disch := omega) only [↓app0, ↓appC, ↓updS, ↓updN, ↓hpS, ↓hpN]) <;> first | rfl | assumption) | assumption | rfl); rfl; rfl; rfl; rfl; rfl; rfl)
    refine rfa (off := 1) (s := 1) (r := false) rfl rfl rfl (Nat.succ_ne_zero _) rfl rfl rfl ?_
    (apply rlc (v := .int _ _) rfl rfl; (first | ((simp (disch := omega) only [↓app0, ↓appC, ↓updS, ↓updN, ↓hpS, ↓hpN]) <;> first | rfl | assumption) | assumption | rfl); rfl; rfl; rfl; rfl; rfl; rfl)
    refine rne rfl rfl rfl rfl rfl rfl ?_ ?_ <;> intro h3_4
    · refine rNil ?_
      refine qSeq ?_
      refine wT rfl ?_
      refine wSeq ?_
      refine wRegion ?_
      refine raB rfl rfl rfl rfl rfl ?_
      refine rNil ?_
      refine qSeq ?_
      refine wRet ?_
      refine qSeqR ?_
      first | exact fin rfl rfl | exact absurd rfl h1_4 | exact absurd rfl h3_4
    · refine rNil ?_
      refine qSeq ?_
      refine wF rfl ?_
      refine wSkip ?_
      refine qSeq ?_
      refine wSeq ?_
      refine wSeq ?_
      refine wRegion ?_
      refine rfa (off := 2) (s := 1) (r := false) rfl rfl rfl (Nat.succ_ne_zero _) rfl rfl rfl ?_
      (apply rlc (v := .sl _ _ _) rfl rfl; (first | ((simp (disch := omega) only [↓app0, ↓appC, ↓updS, ↓updN, ↓hpS, ↓hpN]) <;> first | rfl | assumption) | assumption | rfl); rfl; rfl; rfl; rfl; rfl; rfl)
      refine rfa (off := 2) (s := 1) (r := false) rfl rfl rfl (Nat.succ_ne_zero _) rfl rfl rfl ?_
      (apply rlc (v := .sl _ _ _) rfl rfl; (first | ((simp (disch := omega) only [↓app0, ↓appC, ↓updS, ↓updN, ↓hpS, ↓hpN]) <;> first | rfl | assumption) | assumption | rfl); rfl; rfl; rfl; rfl; rfl; rfl)
      refine rcl (s51 a2 b2 a1 b1 t.lk hL hW) rfl rfl rfl rfl rfl rfl ?_
      refine rnot (c := true) rfl rfl rfl rfl rfl ?_
      refine rNil ?_
      refine qSeq ?_
      refine wF rfl ?_
      refine wSkip ?_
      refine qSeq ?_
      refine wSeq ?_
      refine wSeq ?_
      refine wRegion ?_
      refine rfa (off := 3) (s := 1) (r := false) rfl rfl rfl (Nat.succ_ne_zero _) rfl rfl rfl ?_
      (apply rlc (v := .sl _ _ _) rfl rfl; (first | ((simp (disch := omega) only [↓app0, ↓appC, ↓updS, ↓updN, ↓hpS, ↓hpN]) <;> first | rfl | assumption) | assumption | rfl); rfl; rfl; rfl; rfl; rfl; rfl)
      refine rfa (off := 3) (s := 1) (r := false) rfl rfl rfl (Nat.succ_ne_zero _) rfl rfl rfl ?_
      (apply rlc (v := .sl _ _ _) rfl rfl; (first | ((simp (disch := omega) only [↓app0, ↓appC, ↓updS, ↓updN, ↓hpS, ↓hpN]) <;> first | rfl | assumption) | assumption | rfl); rfl; rfl; rfl; rfl; rfl; rfl)
      refine rcl (s52 a3 b3 t.sn hS) rfl rfl rfl rfl rfl rfl ?_
      refine rnot (c := true) rfl rfl rfl rfl rfl ?_
      refine rNil ?_
      refine qSeq ?_
      refine wF rfl ?_
      refine wSkip ?_
      refine qSeq ?_
      refine wSeq ?_
      refine wRegion ?_
      refine raB rfl rfl rfl rfl rfl ?_
      refine rNil ?_
      refine qSeq ?_
      refine wRet ?_
      first | exact fin rfl rfl | exact absurd rfl h1_4 | exact absurd rfl h3_4
end Go.Proofs.Ytknnniaoboaghaa
