import Derived.Test.YtknnniaoboaghaaA17
namespace Go.Proofs.Ytknnniaoboaghaa
open Go.V
set_option linter.unusedVariables false
set_option linter.unusedSimpArgs false
set_option maxRecDepth 20000
set_option maxHeartbeats 4000000

/-! spec's own copy of a table, in memory. -/
theorem o44 (t : Tb) (fr : Bool) (hL : t.lk.length ≤ 1000) (hW : ∀ i, i < t.lk.length → (t.lk.getD i Lk0).ws.length ≤ 1048576) (hS : t.sn.length ≤ 1048576) {h : Heap} {n : Nat} (lid0 : Nat) (hlid : lid0 = n + 2 ∧ t.lk.length = 0 ∨ lid0 = n + 5 * t.lk.length + 5 ∧ 0 < t.lk.length) : V.Open En 44 [.agg [.int .i64 t.tm, .int .i64 t.nx, .sl fr true (t.lk.map (Lk.T true)), .sl fr true (t.sn.map Sn.T)]] h n (.agg [.int .i64 t.tm, .int .i64 t.nx, .view lid0 0 t.lk.length, .view (n + 4) 0 t.sn.length]) ([(n + 4, some ⟨t.sn.map Sn.V, 6, 115⟩), (lid0, some ⟨lkR (fun i => n + 6 + 5 * i + 2) t.lk, 5, 29⟩)] ++ famL (fun i => n + 6 + 5 * i + 2) (wsF t.lk) t.lk.length) (n + 6 + 5 * t.lk.length) := by
  have hl : (t.lk.map (Lk.T true)).length = t.lk.length := List.length_map ..
  refine V.Open.fresh rfl (by omega) fun hz => ?_
  refine V.Open.of_wp Try.func44 rfl (Nat.le_of_ble_eq_true rfl) ?_
  refine wSeq ?_
  refine wRegion ?_
  (refine rbx (u := .agg [.int .i64 t.tm, .int .i64 t.nx, .sl fr true (t.lk.map (Lk.T true)), .sl fr true (t.sn.map Sn.T)]) rfl rfl rfl rfl rfl rfl rfl ?_)
  refine ral rfl rfl rfl rfl rfl rfl ?_
  refine rNil ?_
  refine qSeq ?_
  refine wSeq ?_
  refine wDraw [0, 1, 0, 4, 0, 0, 0, 64, 224, 511, 0, 2047] rfl (by decide +kernel) ?_
  refine dfa (off := 0) (s := 1) (r := false) rfl rfl rfl (Nat.succ_ne_zero _) rfl rfl rfl ?_
  (apply dlc (v := .int _ _) rfl rfl; (first | ((simp (disch := (first | omega | assumption)) only [↓appC, ↓updN, ↓updS, ↓app0, ↓hpS, ↓hpN]) <;> first | rfl | assumption) | ((simp (disch := (first | omega | (intro _ _; dsimp only; omega))) only [↓appC, ↓updN, ↓updS, ↓app0, ↓famAO]) <;> first | rfl | assumption) | assumption | rfl); rfl; rfl; rfl; rfl; rfl; rfl)
  refine dfa (off := 1) (s := 1) (r := false) rfl rfl rfl (Nat.succ_ne_zero _) rfl rfl rfl ?_
  (apply dlc (v := .int _ _) rfl rfl; (first | ((simp (disch := (first | omega | assumption)) only [↓appC, ↓updN, ↓updS, ↓app0, ↓hpS, ↓hpN]) <;> first | rfl | assumption) | ((simp (disch := (first | omega | (intro _ _; dsimp only; omega))) only [↓appC, ↓updN, ↓updS, ↓app0, ↓famAO]) <;> first | rfl | assumption) | assumption | rfl); rfl; rfl; rfl; rfl; rfl; rfl)
  refine dbs (es := []) rfl rfl rfl rfl (Nat.succ_ne_zero _) (Nat.le_of_ble_eq_true rfl) rfl rfl rfl rfl rfl ?_
  refine dbs (es := []) rfl rfl rfl rfl (Nat.succ_ne_zero _) (Nat.le_of_ble_eq_true rfl) rfl rfl rfl rfl rfl ?_
  refine dfa (off := 3) (s := 1) (r := false) rfl rfl rfl (Nat.succ_ne_zero _) rfl rfl rfl ?_
  (apply dlc (v := .sl _ _ _) rfl rfl; (first | ((simp (disch := (first | omega | assumption)) only [↓appC, ↓updN, ↓updS, ↓app0, ↓hpS, ↓hpN]) <;> first | rfl | assumption) | ((simp (disch := (first | omega | (intro _ _; dsimp only; omega))) only [↓appC, ↓updN, ↓updS, ↓app0, ↓famAO]) <;> first | rfl | assumption) | assumption | rfl); rfl; rfl; rfl; rfl; rfl; rfl)
  (apply dap (s' := 48) rfl rfl; (first | ((simp (disch := (first | omega | assumption)) only [↓appC, ↓updN, ↓updS, ↓app0, ↓hpS, ↓hpN]) <;> first | rfl | assumption) | ((simp (disch := (first | omega | (intro _ _; dsimp only; omega))) only [↓appC, ↓updN, ↓updS, ↓app0, ↓famAO]) <;> first | rfl | assumption) | assumption | rfl); rfl; rfl; rfl; rfl; rfl; exact (Nat.succ_ne_zero _); rfl; exact (lenSnF fr t.sn); (simp only [List.length_map]; omega); (simp only [List.length_map]; omega); rfl; rfl; rfl)
  refine dbd (cs := [.int _ _, .int _ _, _, _]) rfl rfl rfl rfl rfl ?_
  refine dal rfl rfl rfl rfl rfl rfl ?_
  (apply dst (u := .agg [.int _ _, .int _ _, _, _]) rfl rfl rfl; (first | ((simp (disch := (first | omega | assumption)) only [↓appC, ↓updN, ↓updS, ↓app0, ↓hpS, ↓hpN]) <;> first | rfl | assumption) | ((simp (disch := (first | omega | (intro _ _; dsimp only; omega))) only [↓appC, ↓updN, ↓updS, ↓app0, ↓famAO]) <;> first | rfl | assumption) | assumption | rfl); rfl; rfl; rfl; rfl; rfl; (exact Nat.le_of_ble_eq_true rfl); rfl; rfl; rfl)
  refine dNilR 12 [3, 3, 0, 3, 1, 0, 3, 3, 1, 0, 1, 0] [(1, 4), (3, 4), (1, 5), (3, 5), (4, 5), (4, 7), (5, 7), (1, 8), (3, 8), (4, 8), (1, 10), (3, 10), (4, 10), (5, 10), (7, 10), (8, 10)] rfl rfl (by decide +kernel) ?_ ?_
  · (simp [ClearL, ids, srcIds, Env.eval, upd, retV, A.toV, T.toV]; try omega)
  refine qSeq ?_
  refine wSeq ?_
  refine wSeq ?_
  refine wRegion ?_
  refine raI rfl rfl rfl rfl rfl ?_
  refine rNil ?_
  refine qSeq ?_
  refine wBlock ?_
  refine wLoop ?_
  refine loopGo (fun (a : Nat × Nat) => [.unk, .ptr n 0 0, .ptr (n + 1) 0 0, .ptr (n + 5) 0 0, .int .i64 a.1]) (fun (a : Nat × Nat) => app ([(n, some ⟨[[.int .i64 t.tm, .int .i64 t.nx, .sl fr true (t.lk.map (Lk.T true)), .sl fr true (t.sn.map Sn.T)]], 4, 35⟩), (n + 1, some ⟨[[.int .i64 0, .int .i64 0, .nsl, .nsl]], 4, 35⟩), (n + 4, some ⟨t.sn.map Sn.V, 6, 115⟩), (n + 5, some ⟨[[.int .i64 t.tm, .int .i64 t.nx, .view a.2 0 a.1, .view (n + 4) 0 t.sn.length]], 4, 35⟩), (a.2, some ⟨(List.range a.1).map (rwV (fun i => n + 6 + 5 * i + 2) t.lk), 5, 29⟩)] ++ famL (fun i => n + 6 + 5 * i + 2) (wsF t.lk) a.1) h) (fun (a : Nat × Nat) => n + 6 + 5 * a.1) (fun (a : Nat × Nat) => a.1 ≤ t.lk.length ∧ (a.2 = n + 2 ∧ a.1 = 0 ∨ a.2 = n + 5 * a.1 + 5 ∧ 0 < a.1)) (fun (a : Nat × Nat) => t.lk.length - a.1) (0, n + 2) ?_ ?_ ?_ ?_ ?_
  · exact ⟨Nat.zero_le _, .inl ⟨rfl, rfl⟩⟩
  · (repeat first | exact LE.nil _ | refine LE.unk _ _ ?_ | refine LE.eq _ _ _ rfl ?_)
  · dsimp only
    refine lessFam (m := n) hz (fun j hj => ?_) (fun j hj => ?_) (fun j hl hf hn => ?_)
    · exact absurd hj (Nat.not_lt_zero _)
    · simp only [List.map_cons, List.map_nil, List.mem_cons, List.not_mem_nil, or_false] at hj
      refine Eq.trans ?_ (famAO (fun k _ => by rcases hj with e | e | e | e | e <;> rw [e] <;> (try dsimp only) <;> omega)).symm
      rcases hj with e | e | e | e | e <;> rw [e] <;> (simp (disch := (first | omega | (intro _ _; dsimp only; omega))) only [↓appC, ↓updN, ↓updS, ↓app0, ↓famAO]) <;> first | rfl | (first | exact congrArg (fun z => some (Blk.mk z 6 115)) (rowsSnV fr t.sn) | exact congrArg (fun z => some (Blk.mk [[.int .i64 t.tm, .int .i64 t.nx, .view (n + 2) 0 0, .view (n + 4) 0 z]] 4 35)) (by simp))
    · simp only [List.map_cons, List.map_nil, List.mem_cons, List.not_mem_nil, or_false, not_or] at hn
      (try simp (disch := (first | omega | (intro k hk; exact hf k (by omega)))) only [↓appC, ↓updN, ↓updS, ↓app0, ↓famAO])
  · exact Nat.le_refl _
  intro ⟨i, lid⟩ hI ih
  dsimp only at hI ⊢
  have hI2 := hI.2
  refine lStep ?_
  refine wSeq ?_
  refine wSeq ?_
  refine wRegion ?_
  refine rmI rfl rfl rfl rfl rfl ?_
  refine rfa (off := 2) (s := 1) (r := false) rfl rfl rfl (Nat.succ_ne_zero _) rfl rfl rfl ?_
  (apply rlc (v := .sl _ _ _) rfl rfl; (first | ((simp (disch := (first | omega | assumption)) only [↓appC, ↓updN, ↓updS, ↓app0, ↓hpS, ↓hpN]) <;> first | rfl | assumption) | ((simp (disch := (first | omega | (intro _ _; dsimp only; omega))) only [↓appC, ↓updN, ↓updS, ↓app0, ↓famAO]) <;> first | rfl | assumption) | assumption | rfl); rfl; rfl; rfl; rfl; rfl; rfl)
  refine rll rfl rfl rfl rfl rfl rfl ?_
  refine rlt rfl rfl rfl rfl rfl rfl ?_ ?_ <;> intro h3_4
  · refine rNil ?_
    refine qSeq ?_
    refine wT rfl ?_
    refine wSkip ?_
    refine qSeq ?_
    refine wSeq ?_
    refine wBlock ?_
    refine wSeq ?_
    refine wRegion ?_
    refine rfa (off := 2) (s := 1) (r := false) rfl rfl rfl (Nat.succ_ne_zero _) rfl rfl rfl ?_
    (apply rlc (v := .sl _ _ _) rfl rfl; (first | ((simp (disch := (first | omega | assumption)) only [↓appC, ↓updN, ↓updS, ↓app0, ↓hpS, ↓hpN]) <;> first | rfl | assumption) | ((simp (disch := (first | omega | (intro _ _; dsimp only; omega))) only [↓appC, ↓updN, ↓updS, ↓app0, ↓famAO]) <;> first | rfl | assumption) | assumption | rfl); rfl; rfl; rfl; rfl; rfl; rfl)
    refine rmI rfl rfl rfl rfl rfl ?_
    (apply rixl rfl rfl rfl rfl; (first | omega | assumption | (focus (simp; omega))); (first | rfl | assumption | (exact getMap (Lk.T true) Lk0 (k := i) (by omega))); rfl; rfl; rfl; rfl)
    refine rlir (vs := [.str _, .int _ _, .int _ _, .int _ _, _]) rfl rfl rfl (Nat.le_of_ble_eq_true rfl) rfl rfl rfl rfl ?_
    refine ral rfl rfl rfl rfl rfl rfl ?_
    (apply rst (u := .agg [.str _, .int _ _, .int _ _, .int _ _, _]) rfl rfl rfl; (first | ((simp (disch := (first | omega | assumption)) only [↓appC, ↓updN, ↓updS, ↓app0, ↓hpS, ↓hpN]) <;> first | rfl | assumption) | ((simp (disch := (first | omega | (intro _ _; dsimp only; omega))) only [↓appC, ↓updN, ↓updS, ↓app0, ↓famAO]) <;> first | rfl | assumption) | assumption | rfl); rfl; rfl; rfl; rfl; rfl; (exact Nat.le_of_ble_eq_true rfl); rfl; rfl; rfl)
    refine rNil ?_
    refine qSeq ?_
    refine wSeq ?_
    refine wRegion ?_
    refine rbs (es := []) rfl rfl rfl rfl (Nat.succ_ne_zero _) (Nat.le_of_ble_eq_true rfl) rfl rfl rfl rfl rfl ?_
    refine rfa (off := 4) (s := 1) (r := false) rfl rfl rfl (Nat.succ_ne_zero _) rfl rfl rfl ?_
    (apply rlc (v := .sl _ _ _) rfl rfl; (first | ((simp (disch := (first | omega | assumption)) only [↓appC, ↓updN, ↓updS, ↓app0, ↓hpS, ↓hpN]) <;> first | rfl | assumption) | ((simp (disch := (first | omega | (intro _ _; dsimp only; omega))) only [↓appC, ↓updN, ↓updS, ↓app0, ↓famAO]) <;> first | rfl | assumption) | assumption | rfl); rfl; rfl; rfl; rfl; rfl; rfl)
    (apply rap (s' := 16) rfl rfl; (first | ((simp (disch := (first | omega | assumption)) only [↓appC, ↓updN, ↓updS, ↓app0, ↓hpS, ↓hpN]) <;> first | rfl | assumption) | ((simp (disch := (first | omega | (intro _ _; dsimp only; omega))) only [↓appC, ↓updN, ↓updS, ↓app0, ↓famAO]) <;> first | rfl | assumption) | assumption | rfl); rfl; rfl; rfl; rfl; rfl; exact (Nat.succ_ne_zero _); rfl; exact (lenWtF fr (t.lk.getD i Lk0).ws); (simp only [List.length_map]; have := hW i (by omega); omega); (simp only [List.length_map]; have := hW i (by omega); omega); rfl; rfl; rfl)
    refine rfa (off := 4) (s := 1) (r := false) rfl rfl rfl (Nat.succ_ne_zero _) rfl rfl rfl ?_
    (apply rst (u := .view _ _ _) rfl rfl rfl; (first | ((simp (disch := (first | omega | assumption)) only [↓appC, ↓updN, ↓updS, ↓app0, ↓hpS, ↓hpN]) <;> first | rfl | assumption) | ((simp (disch := (first | omega | (intro _ _; dsimp only; omega))) only [↓appC, ↓updN, ↓updS, ↓app0, ↓famAO]) <;> first | rfl | assumption) | assumption | rfl); rfl; rfl; rfl; rfl; rfl; (exact Nat.le_of_ble_eq_true rfl); rfl; rfl; rfl)
    refine rNil ?_
    refine qSeq ?_
    refine wRegion ?_
    refine rfa (off := 2) (s := 1) (r := false) rfl rfl rfl (Nat.succ_ne_zero _) rfl rfl rfl ?_
    (apply rlc (v := .view _ _ _) rfl rfl; (first | ((simp (disch := (first | omega | assumption)) only [↓appC, ↓updN, ↓updS, ↓app0, ↓hpS, ↓hpN]) <;> first | rfl | assumption) | ((simp (disch := (first | omega | (intro _ _; dsimp only; omega))) only [↓appC, ↓updN, ↓updS, ↓app0, ↓famAO]) <;> first | rfl | assumption) | assumption | rfl); rfl; rfl; rfl; rfl; rfl; rfl)
    (apply rlr (vs := [.str _, .int _ _, .int _ _, .int _ _, _]) rfl rfl; (first | ((simp (disch := (first | omega | assumption)) only [↓appC, ↓updN, ↓updS, ↓app0, ↓hpS, ↓hpN]) <;> first | rfl | assumption) | ((simp (disch := (first | omega | (intro _ _; dsimp only; omega))) only [↓appC, ↓updN, ↓updS, ↓app0, ↓famAO]) <;> first | rfl | assumption) | assumption | rfl); rfl; rfl; (exact Nat.le_of_ble_eq_true rfl); rfl; rfl; rfl; rfl)
    refine rbs (es := [[.str _, .int _ _, .int _ _, .int _ _, _]]) rfl rfl rfl rfl (Nat.succ_ne_zero _) (Nat.le_of_ble_eq_true rfl) rfl rfl rfl rfl rfl ?_
    (apply rap (s' := 64) (es := [[.str _, .int _ _, .int _ _, .int _ _, _]]) rfl rfl; (first | ((simp (disch := (first | omega | assumption)) only [↓appC, ↓updN, ↓updS, ↓app0, ↓hpS, ↓hpN]) <;> first | rfl | assumption) | ((simp (disch := (first | omega | (intro _ _; dsimp only; omega))) only [↓appC, ↓updN, ↓updS, ↓app0, ↓famAO]) <;> first | rfl | assumption) | assumption | rfl); rfl; rfl; (first | rfl | (focus (simp; done)) | (focus (simp; omega))); rfl; rfl; exact (Nat.succ_ne_zero _); (first | rfl | (apply srcView rfl; (first | ((simp (disch := (first | omega | assumption)) only [↓appC, ↓updN, ↓updS, ↓app0, ↓hpS, ↓hpN]) <;> first | rfl | assumption) | ((simp (disch := (first | omega | (intro _ _; dsimp only; omega))) only [↓appC, ↓updN, ↓updS, ↓app0, ↓famAO]) <;> first | rfl | assumption) | assumption | rfl); (first | exact Nat.le_refl _ | omega); rfl)); (first | rfl | assumption | (focus (simp; done)) | (focus (intro _ hc; rw [List.mem_singleton] at hc; subst hc; rfl)) | (intro _ _; simp_all)); (first | omega | (focus (simp only [List.length_cons, List.length_nil]; omega)) | exact Nat.le_of_ble_eq_true rfl | ((show (_ + 1) * _ ≤ _); omega) | ((show _ + 1 ≤ _); omega)); (first | omega | (focus (simp only [List.length_cons, List.length_nil]; omega)) | exact Nat.le_of_ble_eq_true rfl | ((show (_ + 1) * _ ≤ _); omega) | ((show _ + 1 ≤ _); omega)); rfl; rfl; rfl)
    refine rfa (off := 2) (s := 1) (r := false) rfl rfl rfl (Nat.succ_ne_zero _) rfl rfl rfl ?_
    (apply rst (u := .view _ _ _) rfl rfl rfl; (first | ((simp (disch := (first | omega | assumption)) only [↓appC, ↓updN, ↓updS, ↓app0, ↓hpS, ↓hpN]) <;> first | rfl | assumption) | ((simp (disch := (first | omega | (intro _ _; dsimp only; omega))) only [↓appC, ↓updN, ↓updS, ↓app0, ↓famAO]) <;> first | rfl | assumption) | assumption | rfl); rfl; rfl; rfl; rfl; rfl; (exact Nat.le_of_ble_eq_true rfl); rfl; rfl; rfl)
    refine rNil ?_
    refine qBlock ?_
    refine qSeq ?_
    refine wRegion ?_
    refine rmI rfl rfl rfl rfl rfl ?_
    refine raddF rfl rfl rfl ?_ ?_ rfl rfl rfl ?_
    · (first | omega | assumption | (focus (simp; omega)))
    · (first | omega | assumption | (focus (simp; omega)))
    refine raI rfl rfl rfl rfl rfl ?_
    refine rNil ?_
    refine qLoop ?_
    refine wlH (ih (i + 1, n + 6 + 5 * i + 1 + 1 + 1 + 1) ⟨by dsimp only; omega, .inr ⟨by dsimp only; omega, by dsimp only; omega⟩⟩ (by dsimp only; omega)) (by (repeat first | exact LE.nil _ | refine LE.unk _ _ ?_ | refine LE.eq _ _ _ rfl ?_)) (by
      dsimp only
      refine lessFam (m := n) hz (fun j hj => ?_) (fun j hj => ?_) (fun j hl hf hn => ?_)
      · refine Eq.trans ?_ (famA (w := (fun i => n + 6 + 5 * i + 2)) (fun a b _ _ e => by (try dsimp only at e); omega) hj).symm
        (try dsimp only)
        by_cases e : j = i
        · rw [e]
          (simp (disch := omega) only [↓appC, ↓updN, ↓updS, ↓app0]) <;> exact congrArg (fun z => some (Blk.mk z 2 123)) (rowsWtV fr _)
        · simp (disch := omega) only [↓appC, ↓updN, ↓updS, ↓app0]
          exact famA (w := (fun i => n + 6 + 5 * i + 2)) (fun a b _ _ e => by (try dsimp only at e); omega) (show j < i by omega)
      · simp only [List.map_cons, List.map_nil, List.mem_cons, List.not_mem_nil, or_false] at hj
        refine Eq.trans ?_ (famAO (fun k _ => by rcases hj with e | e | e | e | e <;> rw [e] <;> (try dsimp only) <;> omega)).symm
        rcases hj with e | e | e | e | e <;> rw [e] <;> (simp (disch := (first | omega | (intro _ _; dsimp only; omega))) only [↓appC, ↓updN, ↓updS, ↓app0, ↓famAO]) <;> first | rfl | (first | (refine congrArg (fun z => some (Blk.mk z 5 29)) ?_; simp only [List.length_map, Nat.zero_add]; exact rgSnoc2 (fun i => n + 6 + 5 * i + 2) t.lk i) | exact congrArg (fun z => some (Blk.mk [[.int .i64 t.tm, .int .i64 t.nx, .view z 0 (i + 1), .view (n + 4) 0 t.sn.length]] 4 35)) (by omega))
      · simp only [List.map_cons, List.map_nil, List.mem_cons, List.not_mem_nil, or_false, not_or] at hn
        (try simp (disch := (first | omega | (intro k hk; exact hf k (by omega)))) only [↓appC, ↓updN, ↓updS, ↓app0, ↓famAO])) (by dsimp only; omega)
  · refine rNil ?_
    refine qSeq ?_
    refine wF rfl ?_
    refine wExit ?_
    refine qSeqX ?_
    refine qLoopX ?_
    refine qBlockX ?_
    refine qSeq ?_
    refine wSeq ?_
    refine wRegion ?_
    (apply rlr (vs := [.int _ _, .int _ _, _, _]) rfl rfl; (first | ((simp (disch := (first | omega | assumption)) only [↓appC, ↓updN, ↓updS, ↓app0, ↓hpS, ↓hpN]) <;> first | rfl | assumption) | ((simp (disch := (first | omega | (intro _ _; dsimp only; omega))) only [↓appC, ↓updN, ↓updS, ↓app0, ↓famAO]) <;> first | rfl | assumption) | assumption | rfl); rfl; rfl; (exact Nat.le_of_ble_eq_true rfl); rfl; rfl; rfl; rfl)
    (apply rst (u := .agg [.int _ _, .int _ _, _, _]) rfl rfl rfl; (first | ((simp (disch := (first | omega | assumption)) only [↓appC, ↓updN, ↓updS, ↓app0, ↓hpS, ↓hpN]) <;> first | rfl | assumption) | ((simp (disch := (first | omega | (intro _ _; dsimp only; omega))) only [↓appC, ↓updN, ↓updS, ↓app0, ↓famAO]) <;> first | rfl | assumption) | assumption | rfl); rfl; rfl; rfl; rfl; rfl; (exact Nat.le_of_ble_eq_true rfl); rfl; rfl; rfl)
    refine rNil ?_
    refine qSeq ?_
    refine wRet ?_
    obtain rfl : i = t.lk.length := by omega
    obtain rfl : lid = lid0 := by omega
    refine finO (resL_cons (resV_row rfl (by (first | ((simp (disch := (first | omega | assumption)) only [↓appC, ↓updN, ↓updS, ↓app0, ↓hpS, ↓hpN]) <;> first | rfl | assumption) | ((simp (disch := (first | omega | (intro _ _; dsimp only; omega))) only [↓appC, ↓updN, ↓updS, ↓app0, ↓famAO]) <;> first | rfl | assumption) | assumption | rfl)) rfl rfl (Nat.le_of_ble_eq_true rfl) rfl) resL_nil) rfl ?_ (by omega)
    refine leFam (fun i hi => ?_) (fun j hj => ?_) (fun j hl hf hn => ?_)
    · refine Eq.trans ?_ (famA (w := (fun i => n + 6 + 5 * i + 2)) (fun a b _ _ e => by (try dsimp only at e); omega) hi).symm
      simp (disch := omega) only [↓appC, ↓updN, ↓app0]
      exact famA (w := (fun i => n + 6 + 5 * i + 2)) (fun a b _ _ e => by (try dsimp only at e); omega) hi
    · simp only [List.map_cons, List.map_nil, List.mem_cons, List.not_mem_nil, or_false] at hj
      refine Eq.trans ?_ (famAO (fun k _ => by rcases hj with e | e <;> rw [e] <;> (try dsimp only) <;> omega)).symm
      rcases hj with e | e <;> rw [e] <;> (simp (disch := (first | omega | (intro _ _; dsimp only; omega))) only [↓appC, ↓updN, ↓updS, ↓app0, ↓famAO]) <;> rfl
    · simp only [List.map_cons, List.map_nil, List.mem_cons, List.not_mem_nil, or_false, not_or] at hn
      simp (disch := (first | omega | (intro k hk; exact hf k (by omega)))) only [↓appC, ↓updN, ↓updS, ↓app0, ↓famAO]
end Go.Proofs.Ytknnniaoboaghaa
