import Derived.Test.YtknnniaoboaghaaA16
import Derived.Test.YtknnniaoboaghaaA11
namespace Go.Proofs.Ytknnniaoboaghaa
open Go.V
set_option linter.unusedVariables false
set_option linter.unusedSimpArgs false
set_option maxRecDepth 20000
set_option maxHeartbeats 4000000

/-! impl's ExpireLocks. -/
def T0 : Tb := ⟨0, 0, [], []⟩
/-- What ExpireLocks answers. -/
noncomputable def exA (t : Tb) (now : Int) : Tb × Int := if ¬ t.OK then (T0, 1) else if ¬ (0 ≤ now ∧ now ≤ 1000000000) then (T0, 4) else if t.nx > 999000 then (t, 13) else (exT t now, 0)
theorem exA_bad {t : Tb} {now : Int} (h : ¬ t.OK) : exA t now = (T0, 1) := if_pos h
theorem exA_rng {t : Tb} {now : Int} (h : t.OK) (h1 : ¬ (0 ≤ now ∧ now ≤ 1000000000)) : exA t now = (T0, 4) := by unfold exA; rw [if_neg (fun e => e h), if_pos h1]
theorem exA_used {t : Tb} {now : Int} (h : t.OK) (h1 : 0 ≤ now ∧ now ≤ 1000000000) (h2 : t.nx > 999000) : exA t now = (t, 13) := by unfold exA; rw [if_neg (fun e => e h), if_neg (fun e => e h1), if_pos h2]
theorem exA_go {t : Tb} {now : Int} (h : t.OK) (h1 : 0 ≤ now ∧ now ≤ 1000000000) (h2 : ¬ t.nx > 999000) : exA t now = (exT t now, 0) := by unfold exA; rw [if_neg (fun e => e h), if_neg (fun e => e h1), if_neg h2]
theorem OKl {t : Tb} (h : t.OK) {j : Nat} (hj : j < t.lk.length) {i : Nat} (hi : i < (t.lk.getD j Lk0).ws.length) : 1 ≤ ((t.lk.getD j Lk0).ws.getD i (0, 0)).2 ∧ ((t.lk.getD j Lk0).ws.getD i (0, 0)).2 ≤ 1000 := ((h.2.2.2.2.1 j hj).1.2.2.2.2.2.2 i hi).2.2.1
theorem o49n (tm nx : Int) (L : List Sn) (fr : Bool) (hS : L.length ≤ 1048576) {h : Heap} {n : Nat} : V.Open En 49 [.agg [.int .i64 tm, .int .i64 nx, .sl fr true [], .sl fr true (L.map Sn.T)]] h n (.agg [.int .i64 tm, .int .i64 nx, .nsl, .view (n + 3) 0 L.length]) [(n + 3, some ⟨L.map Sn.V, 6, 115⟩)] (n + 5) := by
  refine V.Open.of_wp Try.func49 rfl (Nat.le_of_ble_eq_true rfl) ?_
  refine wSeq ?_
  refine wRegion ?_
  (refine rbx (u := .agg [.int .i64 tm, .int .i64 nx, .sl fr true [], .sl fr true (L.map Sn.T)]) rfl rfl rfl rfl rfl rfl rfl ?_)
  refine ral rfl rfl rfl rfl rfl rfl ?_
  refine rNil ?_
  refine qSeq ?_
  refine wSeq ?_
  refine wDraw [0, 1, 0, 4, 0, 16, 48, 127, 0, 511] rfl (by decide +kernel) ?_
  refine dfa (off := 0) (s := 1) (r := false) rfl rfl rfl (Nat.succ_ne_zero _) rfl rfl rfl ?_
  (apply dlc (v := .int _ _) rfl rfl; (first | ((simp (disch := (first | omega | assumption)) only [↓appC, ↓updN, ↓updS, ↓app0, ↓hpS, ↓hpN]) <;> first | rfl | assumption) | ((simp (disch := (first | omega | (intro _ _; dsimp only; omega))) only [↓appC, ↓updN, ↓updS, ↓app0, ↓famAO]) <;> first | rfl | assumption) | assumption | rfl); rfl; rfl; rfl; rfl; rfl; rfl)
  refine dfa (off := 1) (s := 1) (r := false) rfl rfl rfl (Nat.succ_ne_zero _) rfl rfl rfl ?_
  (apply dlc (v := .int _ _) rfl rfl; (first | ((simp (disch := (first | omega | assumption)) only [↓appC, ↓updN, ↓updS, ↓app0, ↓hpS, ↓hpN]) <;> first | rfl | assumption) | ((simp (disch := (first | omega | (intro _ _; dsimp only; omega))) only [↓appC, ↓updN, ↓updS, ↓app0, ↓famAO]) <;> first | rfl | assumption) | assumption | rfl); rfl; rfl; rfl; rfl; rfl; rfl)
  refine dfa (off := 3) (s := 1) (r := false) rfl rfl rfl (Nat.succ_ne_zero _) rfl rfl rfl ?_
  (apply dlc (v := .sl _ _ _) rfl rfl; (first | ((simp (disch := (first | omega | assumption)) only [↓appC, ↓updN, ↓updS, ↓app0, ↓hpS, ↓hpN]) <;> first | rfl | assumption) | ((simp (disch := (first | omega | (intro _ _; dsimp only; omega))) only [↓appC, ↓updN, ↓updS, ↓app0, ↓famAO]) <;> first | rfl | assumption) | assumption | rfl); rfl; rfl; rfl; rfl; rfl; rfl)
  (apply dfr (o90 fr L hS) rfl rfl rfl; (intro x hx; simp only [List.mem_cons, List.not_mem_nil, or_false] at hx; subst hx; rfl); rfl; (exact flatSn L); exact List.cons_ne_nil _ _; rfl; rfl; rfl)
  refine dbd (cs := [.int _ _, .int _ _, _, _]) rfl rfl rfl rfl rfl ?_
  refine dal rfl rfl rfl rfl rfl rfl ?_
  (apply dst (u := .agg [.int _ _, .int _ _, _, _]) rfl rfl rfl; (first | ((simp (disch := (first | omega | assumption)) only [↓appC, ↓updN, ↓updS, ↓app0, ↓hpS, ↓hpN]) <;> first | rfl | assumption) | ((simp (disch := (first | omega | (intro _ _; dsimp only; omega))) only [↓appC, ↓updN, ↓updS, ↓app0, ↓famAO]) <;> first | rfl | assumption) | assumption | rfl); rfl; rfl; rfl; rfl; rfl; (exact Nat.le_of_ble_eq_true rfl); rfl; rfl; rfl)
  refine dNilR 10 [3, 3, 0, 3, 1, 0, 1, 0, 1, 0] [(1, 6), (3, 6), (1, 8), (3, 8), (5, 8), (6, 8)] rfl rfl (by decide +kernel) ?_ ?_
  · (simp [ClearL, ids]; try omega)
  refine qSeq ?_
  refine wSeq ?_
  refine wSeq ?_
  refine wRegion ?_
  refine rfa (off := 2) (s := 1) (r := false) rfl rfl rfl (Nat.succ_ne_zero _) rfl rfl rfl ?_
  (apply rlc (v := .sl _ _ _) rfl rfl; (first | ((simp (disch := (first | omega | assumption)) only [↓appC, ↓updN, ↓updS, ↓app0, ↓hpS, ↓hpN]) <;> first | rfl | assumption) | ((simp (disch := (first | omega | (intro _ _; dsimp only; omega))) only [↓appC, ↓updN, ↓updS, ↓app0, ↓famAO]) <;> first | rfl | assumption) | assumption | rfl); rfl; rfl; rfl; rfl; rfl; rfl)
  refine rll rfl rfl rfl rfl rfl rfl ?_
  refine rmI rfl rfl rfl rfl rfl ?_
  refine rNil ?_
  refine qSeq ?_
  refine wBlock ?_
  refine wLoop ?_
  refine lStep ?_
  refine wSeq ?_
  refine wRegion ?_
  refine rlt rfl rfl rfl rfl rfl rfl (fun h => absurd h ((by show ¬ ((0 : Int) < 0); decide))) ?_
  intro h3_0
  refine rNil ?_
  refine qSeq ?_
  refine wSeq ?_
  refine wF rfl ?_
  refine wExit ?_
  refine qSeqX ?_
  refine qLoopX ?_
  refine qBlockX ?_
  refine qSeq ?_
  refine wSeq ?_
  refine wRegion ?_
  (apply rlr (vs := [.int _ _, .int _ _, _, _]) rfl rfl; (first | ((simp (disch := (first | omega | assumption)) only [↓appC, ↓updN, ↓updS, ↓app0, ↓hpS, ↓hpN]) <;> first | rfl | assumption) | ((simp (disch := (first | omega | (intro _ _; dsimp only; omega))) only [↓appC, ↓updN, ↓updS, ↓app0, ↓famAO]) <;> first | rfl | assumption) | assumption | rfl); rfl; rfl; (exact Nat.le_of_ble_eq_true rfl); rfl; rfl; rfl; rfl)
  (apply rst (u := .agg [.int _ _, .int _ _, _, _]) rfl rfl rfl; (first | ((simp (disch := (first | omega | assumption)) only [↓appC, ↓updN, ↓updS, ↓app0, ↓hpS, ↓hpN]) <;> first | rfl | assumption) | ((simp (disch := (first | omega | (intro _ _; dsimp only; omega))) only [↓appC, ↓updN, ↓updS, ↓app0, ↓famAO]) <;> first | rfl | assumption) | assumption | rfl); rfl; rfl; rfl; rfl; rfl; (exact Nat.le_of_ble_eq_true rfl); rfl; rfl; rfl)
  refine rNil ?_
  refine qSeq ?_
  refine wRet ?_
  exact finO (resL_cons (resV_row rfl (by (first | ((simp (disch := (first | omega | assumption)) only [↓appC, ↓updN, ↓updS, ↓app0, ↓hpS, ↓hpN]) <;> first | rfl | assumption) | ((simp (disch := (first | omega | (intro _ _; dsimp only; omega))) only [↓appC, ↓updN, ↓updS, ↓app0, ↓famAO]) <;> first | rfl | assumption) | assumption | rfl)) rfl rfl (Nat.le_of_ble_eq_true rfl) rfl) resL_nil) rfl (leWr (by
    intro jx hjx
    simp only [List.map_cons, List.map_nil, List.mem_cons, List.not_mem_nil, or_false] at hjx
    rcases hjx with rfl <;> (simp (disch := omega) only [↓appC, ↓updN, ↓updS, ↓app0]) <;> rfl) (fun jx hjx hn => by
    simp only [List.map_cons, List.map_nil, List.mem_cons, List.not_mem_nil, or_false, not_or] at hn
    (simp (disch := omega) only [↓appC, ↓updN, ↓updS, ↓app0]) <;> rfl)) (Nat.le_refl _)
theorem o60n (tm nx now : Int) (Ss : V) {id : Nat} {h : Heap} {n : Nat} (hid : id < n) (hh : h id = some ⟨[[.int .i64 tm, .int .i64 nx, .nsl, Ss]], 4, 35⟩) : V.Open En 60 [.ptr id 0 0, .int .i64 now] h n (.tup []) [(id, some ⟨[[.int .i64 (max tm now), .int .i64 nx, .nsl, Ss]], 4, 35⟩)] n := by
  refine V.Open.of_wp Try.func60 rfl (Nat.le_of_ble_eq_true rfl) ?_
  refine wSeq ?_
  refine wRegion ?_
  refine rmP rfl rfl rfl rfl rfl ?_
  refine rmP rfl rfl rfl rfl rfl ?_
  refine rnc (v := .ptr _ _ _) rfl rfl rfl rfl rfl rfl ?_
  refine rfa (off := 0) (s := 1) (r := false) rfl rfl rfl (Nat.succ_ne_zero _) rfl rfl rfl ?_
  (apply rlc (v := .int _ _) rfl rfl; (first | ((simp (disch := omega) only [↓app0, ↓appC, ↓updS, ↓updN, ↓hpS, ↓hpN]) <;> first | rfl | assumption) | assumption | rfl); rfl; rfl; rfl; rfl; rfl; rfl)
  refine rmI rfl rfl rfl rfl rfl ?_
  refine rmax rfl rfl rfl rfl rfl rfl ?_
  refine rnc (v := .ptr _ _ _) rfl rfl rfl rfl rfl rfl ?_
  refine rfa (off := 0) (s := 1) (r := false) rfl rfl rfl (Nat.succ_ne_zero _) rfl rfl rfl ?_
  (apply rst (u := .int _ _) rfl rfl rfl; (first | ((simp (disch := omega) only [↓app0, ↓appC, ↓updS, ↓updN, ↓hpS, ↓hpN]) <;> first | rfl | assumption) | assumption | rfl); rfl; rfl; rfl; rfl; rfl; (exact Nat.le_of_ble_eq_true rfl); rfl; rfl; rfl)
  refine rNil ?_
  refine qSeq ?_
  refine wSeq ?_
  refine wRegion ?_
  refine rmP rfl rfl rfl rfl rfl ?_
  refine rnc (v := .ptr _ _ _) rfl rfl rfl rfl rfl rfl ?_
  refine rfa (off := 2) (s := 1) (r := false) rfl rfl rfl (Nat.succ_ne_zero _) rfl rfl rfl ?_
  (apply rlc (v := .nsl) rfl rfl; (first | ((simp (disch := omega) only [↓app0, ↓appC, ↓updS, ↓updN, ↓hpS, ↓hpN]) <;> first | rfl | assumption) | assumption | rfl); rfl; rfl; rfl; rfl; rfl; rfl)
  refine rll rfl rfl rfl rfl rfl rfl ?_
  refine rmI rfl rfl rfl rfl rfl ?_
  refine rNil ?_
  refine qSeq ?_
  refine wBlock ?_
  refine wLoop ?_
  refine lStep ?_
  refine wSeq ?_
  refine wRegion ?_
  refine rlt rfl rfl rfl rfl rfl rfl (fun h => absurd h ((by show ¬ ((0 : Int) < 0); decide))) ?_
  intro h2_0
  refine rNil ?_
  refine qSeq ?_
  refine wSeq ?_
  refine wF rfl ?_
  refine wExit ?_
  refine qSeqX ?_
  refine qLoopX ?_
  refine qBlockX ?_
  exact finO rfl rfl (leWr (by
    intro jx hjx
    simp only [List.map_cons, List.map_nil, List.mem_cons, List.not_mem_nil, or_false] at hjx
    rcases hjx with rfl <;> (simp (disch := omega) only [↓appC, ↓updN, ↓updS, ↓app0]) <;> rfl) (fun jx hjx hn => by
    simp only [List.map_cons, List.map_nil, List.mem_cons, List.not_mem_nil, or_false, not_or] at hn
    (simp (disch := omega) only [↓appC, ↓updN, ↓updS, ↓app0]) <;> rfl)) (Nat.le_refl _)
theorem s59 (x : Int) : Pure En 59 [.one (.int .i64 x)] [.one (.bool (decide (0 ≤ x ∧ x ≤ 1000000000)))] := by
  refine Pure.of_wp Try.func59 rfl (Nat.le_of_ble_eq_true rfl) ?_
  refine wSeq ?_
  refine wRegion ?_
  refine raB rfl rfl rfl rfl rfl ?_
  refine rNil ?_
  refine qSeq ?_
  refine wSeq ?_
  refine wRegion ?_
  refine rmI rfl rfl rfl rfl rfl ?_
  refine rclP (p45 _ _ _) rfl rfl rfl rfl rfl rfl ?_ ?_ <;> intro h1_1
  · refine raB rfl rfl rfl rfl rfl ?_
    refine rNil ?_
    refine qSeq ?_
    refine wRet ?_
    first | exact finT rfl h1_1 | exact finF rfl h1_1
  · refine raB rfl rfl rfl rfl rfl ?_
    refine rNil ?_
    refine qSeq ?_
    refine wRet ?_
    first | exact finT rfl h1_1 | exact finF rfl h1_1
theorem o19e (t : Tb) (now : Int) (he : ¬ (t.OK ∧ (0 ≤ now ∧ now ≤ 1000000000))) {n : Nat} : V.Open En 19 ([A.agg (t.T true true true), A.one (.int .i64 now)].map (A.toV false)) (fun _ => none) n (.tup [.agg [.int .i64 0, .int .i64 0, .nsl, .nsl], .int .i64 (exA t now).2]) [(n, none)] (n + 2) := by
  refine V.Open.of_wp Try.func19 rfl (Nat.le_of_ble_eq_true rfl) ?_
  refine wSeq ?_
  refine wRegion ?_
  (refine rbx (u := .agg [.int .i64 t.tm, .int .i64 t.nx, .sl false true (t.lk.map (Lk.T true)), .sl false true (t.sn.map Sn.T)]) rfl rfl rfl rfl rfl rfl rfl ?_)
  refine ral rfl rfl rfl rfl rfl rfl ?_
  refine raI rfl rfl rfl rfl rfl ?_
  refine rNil ?_
  refine qSeq ?_
  refine wSeq ?_
  refine wBlock ?_
  refine wSeq ?_
  refine wRegion ?_
  (apply rlr (vs := [.int _ _, .int _ _, _, _]) rfl rfl; (first | ((simp (disch := (first | omega | assumption)) only [↓appC, ↓updN, ↓updS, ↓app0, ↓hpS, ↓hpN]) <;> first | rfl | assumption) | ((simp (disch := (first | omega | (intro _ _; dsimp only; omega))) only [↓appC, ↓updN, ↓updS, ↓app0, ↓famAO]) <;> first | rfl | assumption) | assumption | rfl); rfl; rfl; (exact Nat.le_of_ble_eq_true rfl); rfl; rfl; rfl; rfl)
  refine rclP (p23 t true true true) rfl rfl rfl rfl rfl rfl ?_ ?_ <;> intro h1_1
  · refine rnot (c := true) rfl rfl rfl rfl rfl ?_
    refine raB rfl rfl rfl rfl rfl ?_
    refine rNil ?_
    refine qSeq ?_
    refine wF rfl ?_
    refine wSeq ?_
    refine wRegion ?_
    refine rmI rfl rfl rfl rfl rfl ?_
    refine rclP (s59 now) rfl rfl rfl rfl rfl rfl ?_ ?_ <;> intro h3_1
    · refine rnot (c := true) rfl rfl rfl rfl rfl ?_
      refine raB rfl rfl rfl rfl rfl ?_
      refine rNil ?_
      refine qSeq ?_
      refine wF rfl ?_
      refine wSeq ?_
      exact absurd ⟨h1_1, h3_1⟩ he
    · refine rnot (c := false) rfl rfl rfl rfl rfl ?_
      refine raB rfl rfl rfl rfl rfl ?_
      refine rNil ?_
      refine qSeq ?_
      refine wT rfl ?_
      refine wSeq ?_
      refine wRegion ?_
      refine rbd (cs := [.int _ _, .int _ _, _, _]) rfl rfl rfl rfl rfl ?_
      (apply rst (u := .agg [.int _ _, .int _ _, _, _]) rfl rfl rfl; (first | ((simp (disch := (first | omega | assumption)) only [↓appC, ↓updN, ↓updS, ↓app0, ↓hpS, ↓hpN]) <;> first | rfl | assumption) | ((simp (disch := (first | omega | (intro _ _; dsimp only; omega))) only [↓appC, ↓updN, ↓updS, ↓app0, ↓famAO]) <;> first | rfl | assumption) | assumption | rfl); rfl; rfl; rfl; rfl; rfl; (exact Nat.le_of_ble_eq_true rfl); rfl; rfl; rfl)
      refine raI rfl rfl rfl rfl rfl ?_
      refine rNil ?_
      refine qSeq ?_
      refine wRet ?_
      refine qBlockR ?_
      refine qSeqR ?_
      rw [exA_rng h1_1 h3_1]; exact finO (resL_cons (resV_row rfl (by (first | ((simp (disch := (first | omega | assumption)) only [↓appC, ↓updN, ↓updS, ↓app0, ↓hpS, ↓hpN]) <;> first | rfl | assumption) | ((simp (disch := (first | omega | (intro _ _; dsimp only; omega))) only [↓appC, ↓updN, ↓updS, ↓app0, ↓famAO]) <;> first | rfl | assumption) | assumption | rfl)) rfl rfl (Nat.le_of_ble_eq_true rfl) rfl) (resL_cons rfl resL_nil)) rfl (fun _ id b e => absurd e (noneW id b)) (by omega)
  · refine rnot (c := false) rfl rfl rfl rfl rfl ?_
    refine raB rfl rfl rfl rfl rfl ?_
    refine rNil ?_
    refine qSeq ?_
    refine wT rfl ?_
    refine wSeq ?_
    refine wRegion ?_
    refine rbd (cs := [.int _ _, .int _ _, _, _]) rfl rfl rfl rfl rfl ?_
    (apply rst (u := .agg [.int _ _, .int _ _, _, _]) rfl rfl rfl; (first | ((simp (disch := (first | omega | assumption)) only [↓appC, ↓updN, ↓updS, ↓app0, ↓hpS, ↓hpN]) <;> first | rfl | assumption) | ((simp (disch := (first | omega | (intro _ _; dsimp only; omega))) only [↓appC, ↓updN, ↓updS, ↓app0, ↓famAO]) <;> first | rfl | assumption) | assumption | rfl); rfl; rfl; rfl; rfl; rfl; (exact Nat.le_of_ble_eq_true rfl); rfl; rfl; rfl)
    refine raI rfl rfl rfl rfl rfl ?_
    refine rNil ?_
    refine qSeq ?_
    refine wRet ?_
    refine qBlockR ?_
    refine qSeqR ?_
    rw [exA_bad h1_1]; exact finO (resL_cons (resV_row rfl (by (first | ((simp (disch := (first | omega | assumption)) only [↓appC, ↓updN, ↓updS, ↓app0, ↓hpS, ↓hpN]) <;> first | rfl | assumption) | ((simp (disch := (first | omega | (intro _ _; dsimp only; omega))) only [↓appC, ↓updN, ↓updS, ↓app0, ↓famAO]) <;> first | rfl | assumption) | assumption | rfl)) rfl rfl (Nat.le_of_ble_eq_true rfl) rfl) (resL_cons rfl resL_nil)) rfl (fun _ id b e => absurd e (noneW id b)) (by omega)
theorem o19z (tm nx : Int) (L : List Sn) (now : Int) (hok : (Tb.mk tm nx [] L).OK) (hr : 0 ≤ now ∧ now ≤ 1000000000) (hS : L.length ≤ 1048576) {n : Nat} : V.Open En 19 ([A.agg ((Tb.mk tm nx [] L).T true true true), A.one (.int .i64 now)].map (A.toV false)) (fun _ => none) n (.tup [.agg [.int .i64 (exA ⟨tm, nx, [], L⟩ now).1.tm, .int .i64 (exA ⟨tm, nx, [], L⟩ now).1.nx, .nsl, .view (n + 5) 0 L.length], .int .i64 (exA ⟨tm, nx, [], L⟩ now).2]) [(n + 5, some ⟨L.map Sn.V, 6, 115⟩)] (n + 8) := by
  refine V.Open.of_wp Try.func19 rfl (Nat.le_of_ble_eq_true rfl) ?_
  refine wSeq ?_
  refine wRegion ?_
  (refine rbx (u := .agg [.int .i64 tm, .int .i64 nx, .sl false true [], .sl false true (L.map Sn.T)]) rfl rfl rfl rfl rfl rfl rfl ?_)
  refine ral rfl rfl rfl rfl rfl rfl ?_
  refine raI rfl rfl rfl rfl rfl ?_
  refine rNil ?_
  refine qSeq ?_
  refine wSeq ?_
  refine wBlock ?_
  refine wSeq ?_
  refine wRegion ?_
  (apply rlr (vs := [.int _ _, .int _ _, _, _]) rfl rfl; (first | ((simp (disch := (first | omega | assumption)) only [↓appC, ↓updN, ↓updS, ↓app0, ↓hpS, ↓hpN]) <;> first | rfl | assumption) | ((simp (disch := (first | omega | (intro _ _; dsimp only; omega))) only [↓appC, ↓updN, ↓updS, ↓app0, ↓famAO]) <;> first | rfl | assumption) | assumption | rfl); rfl; rfl; (exact Nat.le_of_ble_eq_true rfl); rfl; rfl; rfl; rfl)
  refine rclP (p23 ⟨tm, nx, [], L⟩ true true true) rfl rfl rfl rfl rfl rfl ?_ ?_ <;> intro h1_1
  · refine rnot (c := true) rfl rfl rfl rfl rfl ?_
    refine raB rfl rfl rfl rfl rfl ?_
    refine rNil ?_
    refine qSeq ?_
    refine wF rfl ?_
    refine wSeq ?_
    refine wRegion ?_
    refine rmI rfl rfl rfl rfl rfl ?_
    refine rclP (s59 now) rfl rfl rfl rfl rfl rfl ?_ ?_ <;> intro h3_1
    · refine rnot (c := true) rfl rfl rfl rfl rfl ?_
      refine raB rfl rfl rfl rfl rfl ?_
      refine rNil ?_
      refine qSeq ?_
      refine wF rfl ?_
      refine wSeq ?_
      refine wRegion ?_
      refine rfa (off := 1) (s := 1) (r := false) rfl rfl rfl (Nat.succ_ne_zero _) rfl rfl rfl ?_
      (apply rlc (v := .int _ _) rfl rfl; (first | ((simp (disch := (first | omega | assumption)) only [↓appC, ↓updN, ↓updS, ↓app0, ↓hpS, ↓hpN]) <;> first | rfl | assumption) | ((simp (disch := (first | omega | (intro _ _; dsimp only; omega))) only [↓appC, ↓updN, ↓updS, ↓app0, ↓famAO]) <;> first | rfl | assumption) | assumption | rfl); rfl; rfl; rfl; rfl; rfl; rfl)
      refine rgt rfl rfl rfl rfl rfl rfl ?_ ?_ <;> intro h5_2
      · refine raB rfl rfl rfl rfl rfl ?_
        refine rNil ?_
        refine qSeq ?_
        refine wT rfl ?_
        refine wSeq ?_
        refine wRegion ?_
        (apply rlr (vs := [.int _ _, .int _ _, _, _]) rfl rfl; (first | ((simp (disch := (first | omega | assumption)) only [↓appC, ↓updN, ↓updS, ↓app0, ↓hpS, ↓hpN]) <;> first | rfl | assumption) | ((simp (disch := (first | omega | (intro _ _; dsimp only; omega))) only [↓appC, ↓updN, ↓updS, ↓app0, ↓famAO]) <;> first | rfl | assumption) | assumption | rfl); rfl; rfl; (exact Nat.le_of_ble_eq_true rfl); rfl; rfl; rfl; rfl)
        refine rop (o49n tm nx L false hS) rfl rfl rfl rfl rfl rfl ?_
        (apply rst (u := .agg [.int _ _, .int _ _, _, _]) rfl rfl rfl; (first | ((simp (disch := (first | omega | assumption)) only [↓appC, ↓updN, ↓updS, ↓app0, ↓hpS, ↓hpN]) <;> first | rfl | assumption) | ((simp (disch := (first | omega | (intro _ _; dsimp only; omega))) only [↓appC, ↓updN, ↓updS, ↓app0, ↓famAO]) <;> first | rfl | assumption) | assumption | rfl); rfl; rfl; rfl; rfl; rfl; (exact Nat.le_of_ble_eq_true rfl); rfl; rfl; rfl)
        refine raI rfl rfl rfl rfl rfl ?_
        refine rNil ?_
        refine qSeq ?_
        refine wRet ?_
        refine qBlockR ?_
        refine qSeqR ?_
        rw [exA_used hok hr h5_2]; exact finO (resL_cons (resV_row rfl (by (first | ((simp (disch := (first | omega | assumption)) only [↓appC, ↓updN, ↓updS, ↓app0, ↓hpS, ↓hpN]) <;> first | rfl | assumption) | ((simp (disch := (first | omega | (intro _ _; dsimp only; omega))) only [↓appC, ↓updN, ↓updS, ↓app0, ↓famAO]) <;> first | rfl | assumption) | assumption | rfl)) rfl rfl (Nat.le_of_ble_eq_true rfl) rfl) (resL_cons rfl resL_nil)) rfl (leWr (by
          intro jx hjx
          simp only [List.map_cons, List.map_nil, List.mem_cons, List.not_mem_nil, or_false] at hjx
          rcases hjx with rfl <;> (simp (disch := omega) only [↓appC, ↓updN, ↓updS, ↓app0]) <;> rfl) (fun jx hjx hn => by
          simp only [List.map_cons, List.map_nil, List.mem_cons, List.not_mem_nil, or_false, not_or] at hn
          (simp (disch := omega) only [↓appC, ↓updN, ↓updS, ↓app0]) <;> rfl)) (by omega)
      · refine raB rfl rfl rfl rfl rfl ?_
        refine rNil ?_
        refine qSeq ?_
        refine wF rfl ?_
        refine wSkip ?_
        refine qBlock ?_
        refine qSeq ?_
        refine wSeq ?_
        refine wRegion ?_
        (apply rlr (vs := [.int _ _, .int _ _, _, _]) rfl rfl; (first | ((simp (disch := (first | omega | assumption)) only [↓appC, ↓updN, ↓updS, ↓app0, ↓hpS, ↓hpN]) <;> first | rfl | assumption) | ((simp (disch := (first | omega | (intro _ _; dsimp only; omega))) only [↓appC, ↓updN, ↓updS, ↓app0, ↓famAO]) <;> first | rfl | assumption) | assumption | rfl); rfl; rfl; (exact Nat.le_of_ble_eq_true rfl); rfl; rfl; rfl; rfl)
        refine rop (o49n tm nx L false hS) rfl rfl rfl rfl rfl rfl ?_
        refine ral rfl rfl rfl rfl rfl rfl ?_
        (apply rst (u := .agg [.int _ _, .int _ _, _, _]) rfl rfl rfl; (first | ((simp (disch := (first | omega | assumption)) only [↓appC, ↓updN, ↓updS, ↓app0, ↓hpS, ↓hpN]) <;> first | rfl | assumption) | ((simp (disch := (first | omega | (intro _ _; dsimp only; omega))) only [↓appC, ↓updN, ↓updS, ↓app0, ↓famAO]) <;> first | rfl | assumption) | assumption | rfl); rfl; rfl; rfl; rfl; rfl; (exact Nat.le_of_ble_eq_true rfl); rfl; rfl; rfl)
        refine rNil ?_
        refine qSeq ?_
        refine wSeq ?_
        refine wRegion ?_
        refine rmI rfl rfl rfl rfl rfl ?_
        refine rop (o60n tm nx now (.view (n + 5) 0 L.length) (id := n + 7) (by omega) (by (first | ((simp (disch := (first | omega | assumption)) only [↓appC, ↓updN, ↓updS, ↓app0, ↓hpS, ↓hpN]) <;> first | rfl | assumption) | ((simp (disch := (first | omega | (intro _ _; dsimp only; omega))) only [↓appC, ↓updN, ↓updS, ↓app0, ↓famAO]) <;> first | rfl | assumption) | assumption | rfl))) rfl rfl rfl rfl rfl rfl ?_
        refine rNil ?_
        refine qSeq ?_
        refine wSeq ?_
        refine wRegion ?_
        (apply rlr (vs := [.int _ _, .int _ _, _, _]) rfl rfl; (first | ((simp (disch := (first | omega | assumption)) only [↓appC, ↓updN, ↓updS, ↓app0, ↓hpS, ↓hpN]) <;> first | rfl | assumption) | ((simp (disch := (first | omega | (intro _ _; dsimp only; omega))) only [↓appC, ↓updN, ↓updS, ↓app0, ↓famAO]) <;> first | rfl | assumption) | assumption | rfl); rfl; rfl; (exact Nat.le_of_ble_eq_true rfl); rfl; rfl; rfl; rfl)
        (apply rst (u := .agg [.int _ _, .int _ _, _, _]) rfl rfl rfl; (first | ((simp (disch := (first | omega | assumption)) only [↓appC, ↓updN, ↓updS, ↓app0, ↓hpS, ↓hpN]) <;> first | rfl | assumption) | ((simp (disch := (first | omega | (intro _ _; dsimp only; omega))) only [↓appC, ↓updN, ↓updS, ↓app0, ↓famAO]) <;> first | rfl | assumption) | assumption | rfl); rfl; rfl; rfl; rfl; rfl; (exact Nat.le_of_ble_eq_true rfl); rfl; rfl; rfl)
        refine raI rfl rfl rfl rfl rfl ?_
        refine rNil ?_
        refine qSeq ?_
        refine wRet ?_
        rw [exA_go hok hr h5_2]; exact finO (resL_cons (resV_row rfl (by (first | ((simp (disch := (first | omega | assumption)) only [↓appC, ↓updN, ↓updS, ↓app0, ↓hpS, ↓hpN]) <;> first | rfl | assumption) | ((simp (disch := (first | omega | (intro _ _; dsimp only; omega))) only [↓appC, ↓updN, ↓updS, ↓app0, ↓famAO]) <;> first | rfl | assumption) | assumption | rfl)) rfl rfl (Nat.le_of_ble_eq_true rfl) rfl) (resL_cons rfl resL_nil)) rfl (leWr (by
          intro jx hjx
          simp only [List.map_cons, List.map_nil, List.mem_cons, List.not_mem_nil, or_false] at hjx
          rcases hjx with rfl <;> (simp (disch := omega) only [↓appC, ↓updN, ↓updS, ↓app0]) <;> rfl) (fun jx hjx hn => by
          simp only [List.map_cons, List.map_nil, List.mem_cons, List.not_mem_nil, or_false, not_or] at hn
          (simp (disch := omega) only [↓appC, ↓updN, ↓updS, ↓app0]) <;> rfl)) (by omega)
    · refine rnot (c := false) rfl rfl rfl rfl rfl ?_
      refine raB rfl rfl rfl rfl rfl ?_
      refine rNil ?_
      refine qSeq ?_
      refine wT rfl ?_
      refine wSeq ?_
      exact absurd hr h3_1
  · refine rnot (c := false) rfl rfl rfl rfl rfl ?_
    refine raB rfl rfl rfl rfl rfl ?_
    refine rNil ?_
    refine qSeq ?_
    refine wT rfl ?_
    refine wSeq ?_
    exact absurd hok h1_1
theorem o19u (t : Tb) (now : Int) (hok : t.OK) (hr : 0 ≤ now ∧ now ≤ 1000000000) (hu :  t.nx > 999000) (hne : 0 < t.lk.length) {n : Nat} : V.Open En 19 ([A.agg (t.T true true true), A.one (.int .i64 now)].map (A.toV false)) (fun _ => none) n (.tup [.agg [.int .i64 t.tm, .int .i64 t.nx, .view (n + 2 + 5 * t.lk.length + 4) 0 t.lk.length, .view (n + 5) 0 t.sn.length], .int .i64 13]) ([(n + 5, some ⟨t.sn.map Sn.V, 6, 115⟩), (n + 2 + 5 * t.lk.length + 4, some ⟨lkR (fun i => n + 2 + 5 + 5 * i + 2) t.lk, 5, 29⟩)] ++ famL (fun i => n + 2 + 5 + 5 * i + 2) (wsF t.lk) t.lk.length) (n + 8 + 6 * t.lk.length) := by
  have hsz := hok.2.2.2.1
  refine V.Open.of_wp Try.func19 rfl (Nat.le_of_ble_eq_true rfl) ?_
  refine wSeq ?_
  refine wRegion ?_
  (refine rbx (u := .agg [.int .i64 t.tm, .int .i64 t.nx, .sl false true (t.lk.map (Lk.T true)), .sl false true (t.sn.map Sn.T)]) rfl rfl rfl rfl rfl rfl rfl ?_)
  refine ral rfl rfl rfl rfl rfl rfl ?_
  refine raI rfl rfl rfl rfl rfl ?_
  refine rNil ?_
  refine qSeq ?_
  refine wSeq ?_
  refine wBlock ?_
  refine wSeq ?_
  refine wRegion ?_
  (apply rlr (vs := [.int _ _, .int _ _, _, _]) rfl rfl; (first | ((simp (disch := (first | omega | assumption)) only [↓appC, ↓updN, ↓updS, ↓app0, ↓hpS, ↓hpN]) <;> first | rfl | assumption) | ((simp (disch := (first | omega | (intro _ _; dsimp only; omega))) only [↓appC, ↓updN, ↓updS, ↓app0, ↓famAO]) <;> first | rfl | assumption) | assumption | rfl); rfl; rfl; (exact Nat.le_of_ble_eq_true rfl); rfl; rfl; rfl; rfl)
  refine rclP (p23 t true true true) rfl rfl rfl rfl rfl rfl ?_ ?_ <;> intro h1_1
  · refine rnot (c := true) rfl rfl rfl rfl rfl ?_
    refine raB rfl rfl rfl rfl rfl ?_
    refine rNil ?_
    refine qSeq ?_
    refine wF rfl ?_
    refine wSeq ?_
    refine wRegion ?_
    refine rmI rfl rfl rfl rfl rfl ?_
    refine rclP (s59 now) rfl rfl rfl rfl rfl rfl ?_ ?_ <;> intro h3_1
    · refine rnot (c := true) rfl rfl rfl rfl rfl ?_
      refine raB rfl rfl rfl rfl rfl ?_
      refine rNil ?_
      refine qSeq ?_
      refine wF rfl ?_
      refine wSeq ?_
      refine wRegion ?_
      refine rfa (off := 1) (s := 1) (r := false) rfl rfl rfl (Nat.succ_ne_zero _) rfl rfl rfl ?_
      (apply rlc (v := .int _ _) rfl rfl; (first | ((simp (disch := (first | omega | assumption)) only [↓appC, ↓updN, ↓updS, ↓app0, ↓hpS, ↓hpN]) <;> first | rfl | assumption) | ((simp (disch := (first | omega | (intro _ _; dsimp only; omega))) only [↓appC, ↓updN, ↓updS, ↓app0, ↓famAO]) <;> first | rfl | assumption) | assumption | rfl); rfl; rfl; rfl; rfl; rfl; rfl)
      refine rgt rfl rfl rfl rfl rfl rfl ?_ ?_ <;> intro h5_2
      · refine raB rfl rfl rfl rfl rfl ?_
        refine rNil ?_
        refine qSeq ?_
        refine wT rfl ?_
        refine wSeq ?_
        refine wRegion ?_
        (apply rlr (vs := [.int _ _, .int _ _, _, _]) rfl rfl; (first | ((simp (disch := (first | omega | assumption)) only [↓appC, ↓updN, ↓updS, ↓app0, ↓hpS, ↓hpN]) <;> first | rfl | assumption) | ((simp (disch := (first | omega | (intro _ _; dsimp only; omega))) only [↓appC, ↓updN, ↓updS, ↓app0, ↓famAO]) <;> first | rfl | assumption) | assumption | rfl); rfl; rfl; (exact Nat.le_of_ble_eq_true rfl); rfl; rfl; rfl; rfl)
        refine rop (o49 t false (by have := hok.2.2.1; omega) hne (fun i hi => by have := OKw hok hi; omega) (by have := hok.2.2.2.1; omega)) rfl rfl rfl rfl rfl rfl ?_
        (apply rst (u := .agg [.int _ _, .int _ _, _, _]) rfl rfl rfl; (first | ((simp (disch := (first | omega | assumption)) only [↓appC, ↓updN, ↓updS, ↓app0, ↓hpS, ↓hpN]) <;> first | rfl | assumption) | ((simp (disch := (first | omega | (intro _ _; dsimp only; omega))) only [↓appC, ↓updN, ↓updS, ↓app0, ↓famAO]) <;> first | rfl | assumption) | assumption | rfl); rfl; rfl; rfl; rfl; rfl; (exact Nat.le_of_ble_eq_true rfl); rfl; rfl; rfl)
        refine raI rfl rfl rfl rfl rfl ?_
        refine rNil ?_
        refine qSeq ?_
        refine wRet ?_
        refine qBlockR ?_
        refine qSeqR ?_
        skip
        refine finO (resL_cons (resV_row rfl (by (first | ((simp (disch := (first | omega | assumption)) only [↓appC, ↓updN, ↓updS, ↓app0, ↓hpS, ↓hpN]) <;> first | rfl | assumption) | ((simp (disch := (first | omega | (intro _ _; dsimp only; omega))) only [↓appC, ↓updN, ↓updS, ↓app0, ↓famAO]) <;> first | rfl | assumption) | assumption | rfl)) rfl rfl (Nat.le_of_ble_eq_true rfl) rfl) (resL_cons rfl resL_nil)) rfl ?_ (by omega)
        refine leFam (fun i hi => ?_) (fun j hj => ?_) (fun j hl hf hn => ?_)
        · refine Eq.trans ?_ (famA (w := (fun i => n + 2 + 5 + 5 * i + 2)) (fun a b _ _ e => by (try dsimp only at e); omega) hi).symm
          simp (disch := omega) only [↓appC, ↓updN, ↓app0]
          refine (famA (w := (fun i => n + 2 + 5 + 5 * i + 2)) (fun a b _ _ e => by (try dsimp only at e); omega) hi).trans ?_
          exact rfl
        · simp only [List.map_cons, List.map_nil, List.mem_cons, List.not_mem_nil, or_false] at hj
          refine Eq.trans ?_ (famAO (fun k _ => by rcases hj with e | e <;> rw [e] <;> (try dsimp only) <;> omega)).symm
          rcases hj with e | e <;> rw [e] <;> (simp (disch := (first | omega | (intro _ _; dsimp only; omega))) only [↓appC, ↓updN, ↓updS, ↓app0, ↓famAO]) <;> rfl
        · simp only [List.map_cons, List.map_nil, List.mem_cons, List.not_mem_nil, or_false, not_or] at hn
          simp (disch := (first | omega | (intro k hk; exact hf k (by omega)))) only [↓appC, ↓updN, ↓updS, ↓app0, ↓famAO]
      · refine raB rfl rfl rfl rfl rfl ?_
        refine rNil ?_
        refine qSeq ?_
        refine wF rfl ?_
        refine wSkip ?_
        refine qBlock ?_
        refine qSeq ?_
        refine wSeq ?_
        exact absurd hu h5_2
    · refine rnot (c := false) rfl rfl rfl rfl rfl ?_
      refine raB rfl rfl rfl rfl rfl ?_
      refine rNil ?_
      refine qSeq ?_
      refine wT rfl ?_
      refine wSeq ?_
      exact absurd hr h3_1
  · refine rnot (c := false) rfl rfl rfl rfl rfl ?_
    refine raB rfl rfl rfl rfl rfl ?_
    refine rNil ?_
    refine qSeq ?_
    refine wT rfl ?_
    refine wSeq ?_
    exact absurd hok h1_1
theorem o19g (t : Tb) (now : Int) (hok : t.OK) (hr : 0 ≤ now ∧ now ≤ 1000000000) (hu : ¬ t.nx > 999000) (hne : 0 < t.lk.length) {n : Nat} : V.Open En 19 ([A.agg (t.T true true true), A.one (.int .i64 now)].map (A.toV false)) (fun _ => none) n (.tup [.agg [.int .i64 (exT t now).tm, .int .i64 (exT t now).nx, .view (n + 2 + 5 * t.lk.length + 4) 0 t.lk.length, .view (n + 5) 0 t.sn.length], .int .i64 0]) ([(n + 5, some ⟨t.sn.map Sn.V, 6, 115⟩), (n + 2 + 5 * t.lk.length + 4, some ⟨lkP (fun i => n + 2 + 5 + 5 * i + 2) (fun i => exP (max t.tm now) (t.lk.getD i Lk0)) (exL (max t.tm now) t.nx t.lk), 5, 29⟩)] ++ famL (fun i => n + 2 + 5 + 5 * i + 2) (wsP (fun i => exP (max t.tm now) (t.lk.getD i Lk0)) (exL (max t.tm now) t.nx t.lk)) t.lk.length) (n + 8 + 6 * t.lk.length) := by
  have hsz := hok.2.2.2.1
  refine V.Open.of_wp Try.func19 rfl (Nat.le_of_ble_eq_true rfl) ?_
  refine wSeq ?_
  refine wRegion ?_
  (refine rbx (u := .agg [.int .i64 t.tm, .int .i64 t.nx, .sl false true (t.lk.map (Lk.T true)), .sl false true (t.sn.map Sn.T)]) rfl rfl rfl rfl rfl rfl rfl ?_)
  refine ral rfl rfl rfl rfl rfl rfl ?_
  refine raI rfl rfl rfl rfl rfl ?_
  refine rNil ?_
  refine qSeq ?_
  refine wSeq ?_
  refine wBlock ?_
  refine wSeq ?_
  refine wRegion ?_
  (apply rlr (vs := [.int _ _, .int _ _, _, _]) rfl rfl; (first | ((simp (disch := (first | omega | assumption)) only [↓appC, ↓updN, ↓updS, ↓app0, ↓hpS, ↓hpN]) <;> first | rfl | assumption) | ((simp (disch := (first | omega | (intro _ _; dsimp only; omega))) only [↓appC, ↓updN, ↓updS, ↓app0, ↓famAO]) <;> first | rfl | assumption) | assumption | rfl); rfl; rfl; (exact Nat.le_of_ble_eq_true rfl); rfl; rfl; rfl; rfl)
  refine rclP (p23 t true true true) rfl rfl rfl rfl rfl rfl ?_ ?_ <;> intro h1_1
  · refine rnot (c := true) rfl rfl rfl rfl rfl ?_
    refine raB rfl rfl rfl rfl rfl ?_
    refine rNil ?_
    refine qSeq ?_
    refine wF rfl ?_
    refine wSeq ?_
    refine wRegion ?_
    refine rmI rfl rfl rfl rfl rfl ?_
    refine rclP (s59 now) rfl rfl rfl rfl rfl rfl ?_ ?_ <;> intro h3_1
    · refine rnot (c := true) rfl rfl rfl rfl rfl ?_
      refine raB rfl rfl rfl rfl rfl ?_
      refine rNil ?_
      refine qSeq ?_
      refine wF rfl ?_
      refine wSeq ?_
      refine wRegion ?_
      refine rfa (off := 1) (s := 1) (r := false) rfl rfl rfl (Nat.succ_ne_zero _) rfl rfl rfl ?_
      (apply rlc (v := .int _ _) rfl rfl; (first | ((simp (disch := (first | omega | assumption)) only [↓appC, ↓updN, ↓updS, ↓app0, ↓hpS, ↓hpN]) <;> first | rfl | assumption) | ((simp (disch := (first | omega | (intro _ _; dsimp only; omega))) only [↓appC, ↓updN, ↓updS, ↓app0, ↓famAO]) <;> first | rfl | assumption) | assumption | rfl); rfl; rfl; rfl; rfl; rfl; rfl)
      refine rgt rfl rfl rfl rfl rfl rfl ?_ ?_ <;> intro h5_2
      · refine raB rfl rfl rfl rfl rfl ?_
        refine rNil ?_
        refine qSeq ?_
        refine wT rfl ?_
        refine wSeq ?_
        exact absurd h5_2 hu
      · refine raB rfl rfl rfl rfl rfl ?_
        refine rNil ?_
        refine qSeq ?_
        refine wF rfl ?_
        refine wSkip ?_
        refine qBlock ?_
        refine qSeq ?_
        refine wSeq ?_
        refine wRegion ?_
        (apply rlr (vs := [.int _ _, .int _ _, _, _]) rfl rfl; (first | ((simp (disch := (first | omega | assumption)) only [↓appC, ↓updN, ↓updS, ↓app0, ↓hpS, ↓hpN]) <;> first | rfl | assumption) | ((simp (disch := (first | omega | (intro _ _; dsimp only; omega))) only [↓appC, ↓updN, ↓updS, ↓app0, ↓famAO]) <;> first | rfl | assumption) | assumption | rfl); rfl; rfl; (exact Nat.le_of_ble_eq_true rfl); rfl; rfl; rfl; rfl)
        refine rop (o49 t false (by have := hok.2.2.1; omega) hne (fun i hi => by have := OKw hok hi; omega) (by have := hok.2.2.2.1; omega)) rfl rfl rfl rfl rfl rfl ?_
        refine ral rfl rfl rfl rfl rfl rfl ?_
        (apply rst (u := .agg [.int _ _, .int _ _, _, _]) rfl rfl rfl; (first | ((simp (disch := (first | omega | assumption)) only [↓appC, ↓updN, ↓updS, ↓app0, ↓hpS, ↓hpN]) <;> first | rfl | assumption) | ((simp (disch := (first | omega | (intro _ _; dsimp only; omega))) only [↓appC, ↓updN, ↓updS, ↓app0, ↓famAO]) <;> first | rfl | assumption) | assumption | rfl); rfl; rfl; rfl; rfl; rfl; (exact Nat.le_of_ble_eq_true rfl); rfl; rfl; rfl)
        refine rNil ?_
        refine qSeq ?_
        refine wSeq ?_
        refine wRegion ?_
        refine rmI rfl rfl rfl rfl rfl ?_
        refine rop (o60 t.lk t.tm t.nx now (.view (n + 5) 0 t.sn.length) (fun i => n + 2 + 5 + 5 * i + 2) rfl (by have := hok.1; omega) (by have := hok.2.1; omega) (by have := hok.2.2.1; omega) (fun j hj i hi => OKl hok hj hi) (id := n + 2 + 5 + 5 * t.lk.length) (lb := n + 2 + 5 * t.lk.length + 4) (by omega) (by omega) (by omega) (fun i hi => by (try dsimp only); omega) (fun i hi => by (try dsimp only); omega) (fun i hi => by (try dsimp only); omega) (by (first | ((simp (disch := (first | omega | assumption)) only [↓appC, ↓updN, ↓updS, ↓app0, ↓hpS, ↓hpN]) <;> first | rfl | assumption) | ((simp (disch := (first | omega | (intro _ _; dsimp only; omega))) only [↓appC, ↓updN, ↓updS, ↓app0, ↓famAO]) <;> first | rfl | assumption) | assumption | rfl)) (by (first | ((simp (disch := (first | omega | assumption)) only [↓appC, ↓updN, ↓updS, ↓app0, ↓hpS, ↓hpN]) <;> first | rfl | assumption) | ((simp (disch := (first | omega | (intro _ _; dsimp only; omega))) only [↓appC, ↓updN, ↓updS, ↓app0, ↓famAO]) <;> first | rfl | assumption) | assumption | rfl)) (fun i hi => by (simp (disch := omega) only [↓appC, ↓updN, ↓app0]); exact famA (w := (fun i => n + 2 + 5 + 5 * i + 2)) (fun a b _ _ e => by (try dsimp only at e); omega) hi)) rfl rfl rfl rfl rfl rfl ?_
        refine rNil ?_
        refine qSeq ?_
        refine wSeq ?_
        refine wRegion ?_
        (apply rlr (vs := [.int _ _, .int _ _, _, _]) rfl rfl; (first | ((simp (disch := (first | omega | assumption)) only [↓appC, ↓updN, ↓updS, ↓app0, ↓hpS, ↓hpN]) <;> first | rfl | assumption) | ((simp (disch := (first | omega | (intro _ _; dsimp only; omega))) only [↓appC, ↓updN, ↓updS, ↓app0, ↓famAO]) <;> first | rfl | assumption) | assumption | rfl); rfl; rfl; (exact Nat.le_of_ble_eq_true rfl); rfl; rfl; rfl; rfl)
        (apply rst (u := .agg [.int _ _, .int _ _, _, _]) rfl rfl rfl; (first | ((simp (disch := (first | omega | assumption)) only [↓appC, ↓updN, ↓updS, ↓app0, ↓hpS, ↓hpN]) <;> first | rfl | assumption) | ((simp (disch := (first | omega | (intro _ _; dsimp only; omega))) only [↓appC, ↓updN, ↓updS, ↓app0, ↓famAO]) <;> first | rfl | assumption) | assumption | rfl); rfl; rfl; rfl; rfl; rfl; (exact Nat.le_of_ble_eq_true rfl); rfl; rfl; rfl)
        refine raI rfl rfl rfl rfl rfl ?_
        refine rNil ?_
        refine qSeq ?_
        refine wRet ?_
        skip
        refine finO (resL_cons (resV_row rfl (by (first | ((simp (disch := (first | omega | assumption)) only [↓appC, ↓updN, ↓updS, ↓app0, ↓hpS, ↓hpN]) <;> first | rfl | assumption) | ((simp (disch := (first | omega | (intro _ _; dsimp only; omega))) only [↓appC, ↓updN, ↓updS, ↓app0, ↓famAO]) <;> first | rfl | assumption) | assumption | rfl)) rfl rfl (Nat.le_of_ble_eq_true rfl) rfl) (resL_cons rfl resL_nil)) rfl ?_ (by omega)
        refine leFam (fun i hi => ?_) (fun j hj => ?_) (fun j hl hf hn => ?_)
        · refine Eq.trans ?_ (famA (w := (fun i => n + 2 + 5 + 5 * i + 2)) (fun a b _ _ e => by (try dsimp only at e); omega) hi).symm
          simp (disch := omega) only [↓appC, ↓updN, ↓app0]
          refine (famA (w := (fun i => n + 2 + 5 + 5 * i + 2)) (fun a b _ _ e => by (try dsimp only at e); omega) hi).trans ?_
          exact wsEx hi
        · simp only [List.map_cons, List.map_nil, List.mem_cons, List.not_mem_nil, or_false] at hj
          refine Eq.trans ?_ (famAO (fun k _ => by rcases hj with e | e <;> rw [e] <;> (try dsimp only) <;> omega)).symm
          rcases hj with e | e <;> rw [e] <;> (simp (disch := (first | omega | (intro _ _; dsimp only; omega))) only [↓appC, ↓updN, ↓updS, ↓app0, ↓famAO]) <;> rfl
        · simp only [List.map_cons, List.map_nil, List.mem_cons, List.not_mem_nil, or_false, not_or] at hn
          simp (disch := (first | omega | (intro k hk; exact hf k (by omega)))) only [↓appC, ↓updN, ↓updS, ↓app0, ↓famAO]
    · refine rnot (c := false) rfl rfl rfl rfl rfl ?_
      refine raB rfl rfl rfl rfl rfl ?_
      refine rNil ?_
      refine qSeq ?_
      refine wT rfl ?_
      refine wSeq ?_
      exact absurd hr h3_1
  · refine rnot (c := false) rfl rfl rfl rfl rfl ?_
    refine raB rfl rfl rfl rfl rfl ?_
    refine rNil ?_
    refine qSeq ?_
    refine wT rfl ?_
    refine wSeq ?_
    exact absurd hok h1_1
end Go.Proofs.Ytknnniaoboaghaa
