import Derived.Test.YtknnniaoboaghaaA8
import Derived.Test.YtknnniaoboaghaaVq
namespace Go.Proofs.Ytknnniaoboaghaa
open Go.V
set_option linter.unusedVariables false
set_option linter.unusedSimpArgs false
set_option maxRecDepth 20000
set_option maxHeartbeats 4000000

/-! impl's copies of tables. -/
theorem o90 (fr : Bool) (L : List Sn) (hL : L.length ≤ 1048576) {h : Heap} {n : Nat} : V.Open En 90 [.sl fr true (L.map Sn.T)] h n (.view (n + 1) 0 L.length) [(n + 1, some ⟨L.map Sn.V, 6, 115⟩)] (n + 2) := by
  refine V.Open.of_wp Try.func90 rfl (Nat.le_of_ble_eq_true rfl) ?_
  refine wSeq ?_
  refine wRegion ?_
  refine raN rfl rfl rfl rfl rfl ?_
  refine rNil ?_
  refine qSeq ?_
  refine wSeq ?_
  refine wSeq ?_
  refine wRegion ?_
  refine rmL rfl rfl rfl rfl rfl ?_
  refine rnil (c := false) rfl rfl rfl rfl rfl rfl ?_
  refine rNil ?_
  refine qSeq ?_
  refine wF rfl ?_
  refine wSkip ?_
  refine qSeq ?_
  refine wSeq ?_
  refine wRegion ?_
  refine rbs (es := []) rfl rfl rfl rfl (Nat.succ_ne_zero _) (Nat.le_of_ble_eq_true rfl) rfl rfl rfl rfl rfl ?_
  refine rmL rfl rfl rfl rfl rfl ?_
  (apply rap (s' := 48) rfl rfl; (first | ((simp (disch := omega) only [↓app0, ↓appC, ↓updS, ↓updN, ↓hpS, ↓hpN]) <;> first | rfl | assumption) | assumption | rfl); rfl; rfl; rfl; rfl; rfl; exact (Nat.succ_ne_zero _); rfl; exact (lenSnF fr L); (simp only [List.length_map]; omega); (simp only [List.length_map]; omega); rfl; rfl; rfl)
  refine raV rfl rfl rfl rfl rfl ?_
  refine rNil ?_
  refine qSeq ?_
  refine wRet ?_
  exact finO rfl (congrArg (V.view (n + 1) 0) (by simp)) (leWr (by
    intro j hj
    simp only [List.map_cons, List.map_nil, List.mem_cons, List.not_mem_nil, or_false] at hj
    rcases hj with rfl <;> (simp (disch := omega) only [↓app0, ↓appC, ↓updS, ↓updN, ↓hpS, ↓hpN]) <;> first | rfl | (exact congrArg (fun z => some (Blk.mk z 6 115)) (rowsSnV fr L))) (fun j hj hn => by
    simp only [List.map_cons, List.map_nil, List.mem_cons, List.not_mem_nil, or_false, not_or] at hn
    (simp (disch := omega) only [↓app0, ↓appC, ↓updS, ↓updN, ↓hpS, ↓hpN]) <;> rfl)) (Nat.le_refl _)
theorem o91 (fr : Bool) (L : List Wt) (hL : L.length ≤ 1048576) {h : Heap} {n : Nat} : V.Open En 91 [.sl fr true (L.map wtT)] h n (.view (n + 1) 0 L.length) [(n + 1, some ⟨L.map wtV, 2, 123⟩)] (n + 2) := by
  refine V.Open.of_wp Try.func91 rfl (Nat.le_of_ble_eq_true rfl) ?_
  refine wSeq ?_
  refine wRegion ?_
  refine raN rfl rfl rfl rfl rfl ?_
  refine rNil ?_
  refine qSeq ?_
  refine wSeq ?_
  refine wSeq ?_
  refine wRegion ?_
  refine rmL rfl rfl rfl rfl rfl ?_
  refine rnil (c := false) rfl rfl rfl rfl rfl rfl ?_
  refine rNil ?_
  refine qSeq ?_
  refine wF rfl ?_
  refine wSkip ?_
  refine qSeq ?_
  refine wSeq ?_
  refine wRegion ?_
  refine rbs (es := []) rfl rfl rfl rfl (Nat.succ_ne_zero _) (Nat.le_of_ble_eq_true rfl) rfl rfl rfl rfl rfl ?_
  refine rmL rfl rfl rfl rfl rfl ?_
  (apply rap (s' := 16) rfl rfl; (first | ((simp (disch := omega) only [↓app0, ↓appC, ↓updS, ↓updN, ↓hpS, ↓hpN]) <;> first | rfl | assumption) | assumption | rfl); rfl; rfl; rfl; rfl; rfl; exact (Nat.succ_ne_zero _); rfl; exact (lenWtF fr L); (simp only [List.length_map]; omega); (simp only [List.length_map]; omega); rfl; rfl; rfl)
  refine raV rfl rfl rfl rfl rfl ?_
  refine rNil ?_
  refine qSeq ?_
  refine wRet ?_
  exact finO rfl (congrArg (V.view (n + 1) 0) (by simp)) (leWr (by
    intro j hj
    simp only [List.map_cons, List.map_nil, List.mem_cons, List.not_mem_nil, or_false] at hj
    rcases hj with rfl <;> (simp (disch := omega) only [↓app0, ↓appC, ↓updS, ↓updN, ↓hpS, ↓hpN]) <;> first | rfl | (exact congrArg (fun z => some (Blk.mk z 2 123)) (rowsWtV fr L))) (fun j hj hn => by
    simp only [List.map_cons, List.map_nil, List.mem_cons, List.not_mem_nil, or_false, not_or] at hn
    (simp (disch := omega) only [↓app0, ↓appC, ↓updS, ↓updN, ↓hpS, ↓hpN]) <;> rfl)) (Nat.le_refl _)
theorem flatSn (L : List Sn) {k : Nat} : ∀ id b, app [(k, some (Blk.mk (L.map Sn.V) 6 115))] (fun _ => none) id = some b → ∀ e ∈ b.es, ∀ x ∈ e, x.flat = true := by
  intro id b hb e he x hx
  have : b = Blk.mk (L.map Sn.V) 6 115 := by
    simp only [app] at hb
    by_cases h : id = k
    · subst h; rw [upd_same] at hb; exact (Option.some.inj hb).symm
    · rw [upd_ne _ _ h] at hb; cases hb
  subst this
  obtain ⟨s, _, rfl⟩ := List.mem_map.1 he
  simp only [Sn.V, List.mem_cons, List.not_mem_nil, or_false] at hx
  rcases hx with rfl | rfl | rfl | rfl | rfl | rfl <;> rfl
theorem rgSnoc (w : Nat → Nat) (L : List Lk) (i : Nat) : (List.range i).map (rwV w L) ++ [rwV w L i] = (List.range (i + 1)).map (rwV w L) := by
  rw [List.range_succ, List.map_append]; rfl
theorem o49 (t : Tb) (fr : Bool) (hL : t.lk.length ≤ 1000) (hne : 0 < t.lk.length) (hW : ∀ i, i < t.lk.length → (t.lk.getD i Lk0).ws.length ≤ 1048576) (hS : t.sn.length ≤ 1048576) {h : Heap} {n : Nat} :
    V.Open En 49 [.agg [.int .i64 t.tm, .int .i64 t.nx, .sl fr true (t.lk.map (Lk.T true)), .sl fr true (t.sn.map Sn.T)]] h n (.agg [.int .i64 t.tm, .int .i64 t.nx, .view (n + 5 * t.lk.length + 4) 0 t.lk.length, .view (n + 3) 0 t.sn.length])
    ([(n + 3, some ⟨t.sn.map Sn.V, 6, 115⟩), (n + 5 * t.lk.length + 4, some ⟨lkR (fun i => n + 5 + 5 * i + 2) t.lk, 5, 29⟩)] ++ famL (fun i => n + 5 + 5 * i + 2) (wsF t.lk) t.lk.length) (n + 5 + 5 * t.lk.length) := by
  have hl : (t.lk.map (Lk.T true)).length = t.lk.length := List.length_map ..
  refine V.Open.fresh rfl (by omega) fun hz => ?_
  refine V.Open.of_wp Try.func49 rfl (Nat.le_of_ble_eq_true rfl) ?_
  refine wSeq ?_
  refine wRegion ?_
  (refine rbx (u := .agg [.int .i64 t.tm, .int .i64 t.nx, .sl fr true (t.lk.map (Lk.T true)), .sl fr true (t.sn.map Sn.T)]) rfl rfl rfl rfl rfl rfl rfl ?_)
  refine ral rfl rfl rfl rfl rfl rfl ?_
  refine rNil ?_
  refine qSeq ?_
  refine wSeq ?_
  refine wDraw [0, 1, 0, 4, 0, 16, 48, 127, 0, 511] rfl (by decide +kernel) ?_
  refine dfa (off := 0) (s := 1) (r := false) rfl rfl rfl (Nat.succ_ne_zero _) rfl rfl rfl ?_
  (apply dlc (v := .int _ _) rfl rfl; (first | ((simp (disch := (first | omega | assumption)) only [↓appC, ↓updN, ↓updS, ↓app0, ↓hpS, ↓hpN]) <;> first | rfl | assumption) | ((simp (disch := (first | omega | (intro _ _; dsimp only; omega))) only [↓appC, ↓updN, ↓updS, ↓app0, ↓famAO]) <;> first | rfl | assumption) | assumption | rfl); rfl; rfl; rfl; rfl; rfl; rfl)
  refine dfa (off := 1) (s := 1) (r := false) rfl rfl rfl (Nat.succ_ne_zero _) rfl rfl rfl ?_
  (apply dlc (v := .int _ _) rfl rfl; (first | ((simp (disch := (first | omega | assumption)) only [↓appC, ↓updN, ↓updS, ↓app0, ↓hpS, ↓hpN]) <;> first | rfl | assumption) | ((simp (disch := (first | omega | (intro _ _; dsimp only; omega))) only [↓appC, ↓updN, ↓updS, ↓app0, ↓famAO]) <;> first | rfl | assumption) | assumption | rfl); rfl; rfl; rfl; rfl; rfl; rfl)
  refine dfa (off := 3) (s := 1) (r := false) rfl rfl rfl (Nat.succ_ne_zero _) rfl rfl rfl ?_
  (apply dlc (v := .sl _ _ _) rfl rfl; (first | ((simp (disch := (first | omega | assumption)) only [↓appC, ↓updN, ↓updS, ↓app0, ↓hpS, ↓hpN]) <;> first | rfl | assumption) | ((simp (disch := (first | omega | (intro _ _; dsimp only; omega))) only [↓appC, ↓updN, ↓updS, ↓app0, ↓famAO]) <;> first | rfl | assumption) | assumption | rfl); rfl; rfl; rfl; rfl; rfl; rfl)
  (apply dfr (o90 fr t.sn hS) rfl rfl rfl; (intro x hx; simp only [List.mem_cons, List.not_mem_nil, or_false] at hx; subst hx; rfl); rfl; (exact flatSn t.sn); exact List.cons_ne_nil _ _; rfl; rfl; rfl)
  refine dbd (cs := [.int _ _, .int _ _, _, _]) rfl rfl rfl rfl rfl ?_
  refine dal rfl rfl rfl rfl rfl rfl ?_
  (apply dst (u := .agg [.int _ _, .int _ _, _, _]) rfl rfl rfl; (first | ((simp (disch := (first | omega | assumption)) only [↓appC, ↓updN, ↓updS, ↓app0, ↓hpS, ↓hpN]) <;> first | rfl | assumption) | ((simp (disch := (first | omega | (intro _ _; dsimp only; omega))) only [↓appC, ↓updN, ↓updS, ↓app0, ↓famAO]) <;> first | rfl | assumption) | assumption | rfl); rfl; rfl; rfl; rfl; rfl; (exact Nat.le_of_ble_eq_true rfl); rfl; rfl; rfl)
  refine dNilR 10 [3, 3, 0, 3, 1, 0, 1, 0, 1, 0] [(1, 6), (3, 6), (1, 8), (3, 8), (5, 8), (6, 8)] rfl rfl (by decide +kernel) ?_ ?_
  · (simp [ClearL, ids]; try omega)
  refine qSeq ?_
  refine wSeq ?_
  refine wSeq ?_
  refine wRegion ?_
  refine rfa (off := 2) (s := 1) (r := false) rfl rfl rfl (Nat.succ_ne_zero _) rfl rfl rfl ?_
  (apply rlc (v := .sl _ _ _) rfl rfl; (first | ((simp (disch := (first | omega | assumption)) only [↓appC, ↓updN, ↓updS, ↓app0, ↓hpS, ↓hpN]) <;> first | rfl | assumption) | ((simp (disch := (first | omega | (intro _ _; dsimp only; omega))) only [↓appC, ↓updN, ↓updS, ↓app0, ↓famAO]) <;> first | rfl | assumption) | assumption | rfl); rfl; rfl; rfl; rfl; rfl; rfl)
  refine rll rfl rfl rfl rfl rfl rfl ?_
  refine rmI rfl rfl rfl rfl rfl ?_
  refine rNil ?_
  refine qSeq ?_
  refine wBlock ?_
  refine wLoop ?_
  refine lStep ?_
  refine wSeq ?_
  refine wRegion ?_
  refine rlt rfl rfl rfl rfl rfl rfl ?_ (fun h => absurd (by (try rw [hl]); omega) h)
  intro h3_0
  refine rNil ?_
  refine qSeq ?_
  refine wSeq ?_
  refine wT rfl ?_
  refine wSkip ?_
  refine qSeq ?_
  refine wSeq ?_
  refine wBlock ?_
  refine wSeq ?_
  refine wRegion ?_
  (apply rixl rfl rfl rfl rfl; (first | omega | assumption | (focus (simp; omega))); (first | rfl | assumption | (first | exact getMap (Lk.T true) Lk0 (k := 0) hne | exact getMap (Lk.T true) Lk0 (k := i) (by omega))); rfl; rfl; rfl; rfl)
  refine rlir (vs := [.str _, .int _ _, .int _ _, .int _ _, _]) rfl rfl rfl (Nat.le_of_ble_eq_true rfl) rfl rfl rfl rfl ?_
  refine ral rfl rfl rfl rfl rfl rfl ?_
  (apply rst (u := .agg [.str _, .int _ _, .int _ _, .int _ _, _]) rfl rfl rfl; (first | ((simp (disch := (first | omega | assumption)) only [↓appC, ↓updN, ↓updS, ↓app0, ↓hpS, ↓hpN]) <;> first | rfl | assumption) | ((simp (disch := (first | omega | (intro _ _; dsimp only; omega))) only [↓appC, ↓updN, ↓updS, ↓app0, ↓famAO]) <;> first | rfl | assumption) | assumption | rfl); rfl; rfl; rfl; rfl; rfl; (exact Nat.le_of_ble_eq_true rfl); rfl; rfl; rfl)
  refine rNil ?_
  refine qSeq ?_
  refine wSeq ?_
  refine wRegion ?_
  refine rfa (off := 4) (s := 1) (r := false) rfl rfl rfl (Nat.succ_ne_zero _) rfl rfl rfl ?_
  (apply rlc (v := .sl _ _ _) rfl rfl; (first | ((simp (disch := (first | omega | assumption)) only [↓appC, ↓updN, ↓updS, ↓app0, ↓hpS, ↓hpN]) <;> first | rfl | assumption) | ((simp (disch := (first | omega | (intro _ _; dsimp only; omega))) only [↓appC, ↓updN, ↓updS, ↓app0, ↓famAO]) <;> first | rfl | assumption) | assumption | rfl); rfl; rfl; rfl; rfl; rfl; rfl)
  refine rop (o91 fr (t.lk.getD 0 Lk0).ws (hW 0 hne)) rfl rfl rfl rfl rfl rfl ?_
  refine rfa (off := 4) (s := 1) (r := false) rfl rfl rfl (Nat.succ_ne_zero _) rfl rfl rfl ?_
  (apply rst (u := .view _ _ _) rfl rfl rfl; (first | ((simp (disch := (first | omega | assumption)) only [↓appC, ↓updN, ↓updS, ↓app0, ↓hpS, ↓hpN]) <;> first | rfl | assumption) | ((simp (disch := (first | omega | (intro _ _; dsimp only; omega))) only [↓appC, ↓updN, ↓updS, ↓app0, ↓famAO]) <;> first | rfl | assumption) | assumption | rfl); rfl; rfl; rfl; rfl; rfl; (exact Nat.le_of_ble_eq_true rfl); rfl; rfl; rfl)
  refine rNil ?_
  refine qSeq ?_
  refine wRegion ?_
  refine rfa (off := 2) (s := 1) (r := false) rfl rfl rfl (Nat.succ_ne_zero _) rfl rfl rfl ?_
  (apply rlc (v := .nsl) rfl rfl; (first | ((simp (disch := (first | omega | assumption)) only [↓appC, ↓updN, ↓updS, ↓app0, ↓hpS, ↓hpN]) <;> first | rfl | assumption) | ((simp (disch := (first | omega | (intro _ _; dsimp only; omega))) only [↓appC, ↓updN, ↓updS, ↓app0, ↓famAO]) <;> first | rfl | assumption) | assumption | rfl); rfl; rfl; rfl; rfl; rfl; rfl)
  (apply rlr (vs := [.str _, .int _ _, .int _ _, .int _ _, _]) rfl rfl; (first | ((simp (disch := (first | omega | assumption)) only [↓appC, ↓updN, ↓updS, ↓app0, ↓hpS, ↓hpN]) <;> first | rfl | assumption) | ((simp (disch := (first | omega | (intro _ _; dsimp only; omega))) only [↓appC, ↓updN, ↓updS, ↓app0, ↓famAO]) <;> first | rfl | assumption) | assumption | rfl); rfl; rfl; (exact Nat.le_of_ble_eq_true rfl); rfl; rfl; rfl; rfl)
  refine rbs (es := [[.str _, .int _ _, .int _ _, .int _ _, _]]) rfl rfl rfl rfl (Nat.succ_ne_zero _) (Nat.le_of_ble_eq_true rfl) rfl rfl rfl rfl rfl ?_
  (apply ran (s' := 64) (es := [[.str _, .int _ _, .int _ _, .int _ _, _]]) rfl rfl rfl rfl (Nat.succ_ne_zero _); (first | rfl | (apply srcView rfl; (first | ((simp (disch := (first | omega | assumption)) only [↓appC, ↓updN, ↓updS, ↓app0, ↓hpS, ↓hpN]) <;> first | rfl | assumption) | ((simp (disch := (first | omega | (intro _ _; dsimp only; omega))) only [↓appC, ↓updN, ↓updS, ↓app0, ↓famAO]) <;> first | rfl | assumption) | assumption | rfl); (first | exact Nat.le_refl _ | omega); rfl)); (first | rfl | assumption | (focus (simp; done)) | (focus (intro _ hc; rw [List.mem_singleton] at hc; subst hc; rfl)) | (intro _ _; simp_all)); (first | omega | (focus (simp only [List.length_cons, List.length_nil]; omega)) | exact Nat.le_of_ble_eq_true rfl | ((show (_ + 1) * _ ≤ _); omega) | ((show _ + 1 ≤ _); omega)); (first | omega | (focus (simp only [List.length_cons, List.length_nil]; omega)) | exact Nat.le_of_ble_eq_true rfl | ((show (_ + 1) * _ ≤ _); omega) | ((show _ + 1 ≤ _); omega)); (first | omega | (focus (simp only [List.length_cons, List.length_nil]; omega)) | exact Nat.le_of_ble_eq_true rfl | ((show (_ + 1) * _ ≤ _); omega) | ((show _ + 1 ≤ _); omega)); rfl; rfl; rfl)
  refine rfa (off := 2) (s := 1) (r := false) rfl rfl rfl (Nat.succ_ne_zero _) rfl rfl rfl ?_
  (apply rst (u := .view _ _ _) rfl rfl rfl; (first | ((simp (disch := (first | omega | assumption)) only [↓appC, ↓updN, ↓updS, ↓app0, ↓hpS, ↓hpN]) <;> first | rfl | assumption) | ((simp (disch := (first | omega | (intro _ _; dsimp only; omega))) only [↓appC, ↓updN, ↓updS, ↓app0, ↓famAO]) <;> first | rfl | assumption) | assumption | rfl); rfl; rfl; rfl; rfl; rfl; (exact Nat.le_of_ble_eq_true rfl); rfl; rfl; rfl)
  refine rNil ?_
  refine qBlock ?_
  refine qSeq ?_
  refine wRegion ?_
  refine raddF rfl rfl rfl ?_ ?_ rfl rfl rfl ?_
  · (first | omega | assumption | (focus (simp; omega)))
  · (first | omega | assumption | (focus (simp; omega)))
  refine rmI rfl rfl rfl rfl rfl ?_
  refine rNil ?_
  refine qLoop ?_
  refine loopGo (fun (i : Nat) => [.unk, .ptr n 0 0, .ptr (n + 1) 0 0, .ptr (n + 4) 0 0, .unk, .unk, .unk, .unk, .unk, .unk, .unk, .unk, .unk, .unk, .unk, .sl fr true (t.lk.map (Lk.T true)), .int .i64 (t.lk.map (Lk.T true)).length, .int .i64 i]) (fun (i : Nat) => app ([(n, some ⟨[[.int .i64 t.tm, .int .i64 t.nx, .sl fr true (t.lk.map (Lk.T true)), .sl fr true (t.sn.map Sn.T)]], 4, 35⟩), (n + 1, some ⟨[[.int .i64 0, .int .i64 0, .nsl, .nsl]], 4, 35⟩), (n + 3, some ⟨t.sn.map Sn.V, 6, 115⟩), (n + 4, some ⟨[[.int .i64 t.tm, .int .i64 t.nx, .view (n + 5 * i + 4) 0 i, .view (n + 3) 0 t.sn.length]], 4, 35⟩), (n + 5 * i + 4, some ⟨(List.range i).map (rwV (fun i => n + 5 + 5 * i + 2) t.lk), 5, 29⟩)] ++ famL (fun i => n + 5 + 5 * i + 2) (wsF t.lk) i) h) (fun (i : Nat) => n + 5 + 5 * i) (fun (i : Nat) => 0 < i ∧ i ≤ t.lk.length) (fun (i : Nat) => t.lk.length - i) 1 ?_ ?_ ?_ ?_ ?_
  · exact ⟨Nat.zero_lt_one, hne⟩
  · (repeat first | exact LE.nil _ | refine LE.unk _ _ ?_ | refine LE.eq _ _ _ rfl ?_)
  · refine lessFam (m := n) hz (fun j hj => ?_) (fun j hj => ?_) (fun j hl hf hn => ?_)
    · refine Eq.trans ?_ (famA (w := (fun i => n + 5 + 5 * i + 2)) (fun a b _ _ e => by (try dsimp only at e); omega) hj).symm
      (try dsimp only)
      obtain rfl : j = 0 := by omega
      (simp (disch := omega) only [↓appC, ↓updN, ↓updS, ↓app0]) <;> rfl
    · simp only [List.map_cons, List.map_nil, List.mem_cons, List.not_mem_nil, or_false] at hj
      refine Eq.trans ?_ (famAO (fun k _ => by rcases hj with e | e | e | e | e <;> rw [e] <;> (try dsimp only) <;> omega)).symm
      rcases hj with e | e | e | e | e <;> rw [e] <;> (simp (disch := (first | omega | (intro _ _; dsimp only; omega))) only [↓appC, ↓updN, ↓updS, ↓app0, ↓famAO]) <;> first | rfl | (fail)
    · simp only [List.map_cons, List.map_nil, List.mem_cons, List.not_mem_nil, or_false, not_or] at hn
      (try simp (disch := (first | omega | (intro k hk; exact hf k (by omega)))) only [↓appC, ↓updN, ↓updS, ↓app0, ↓famAO])
  · exact Nat.le_refl _
  intro i hI ih
  refine lStep ?_
  refine wSeq ?_
  refine wRegion ?_
  refine rlt rfl rfl rfl rfl rfl rfl ?_ ?_ <;> intro h3_0
  · refine rNil ?_
    refine qSeq ?_
    refine wSeq ?_
    refine wT rfl ?_
    refine wSkip ?_
    refine qSeq ?_
    refine wSeq ?_
    refine wBlock ?_
    refine wSeq ?_
    refine wRegion ?_
    (apply rixl rfl rfl rfl rfl; (first | omega | assumption | (focus (simp; omega))); (first | rfl | assumption | (first | exact getMap (Lk.T true) Lk0 (k := 0) hne | exact getMap (Lk.T true) Lk0 (k := i) (by omega))); rfl; rfl; rfl; rfl)
    refine rlir (vs := [.str _, .int _ _, .int _ _, .int _ _, _]) rfl rfl rfl (Nat.le_of_ble_eq_true rfl) rfl rfl rfl rfl ?_
    refine ral rfl rfl rfl rfl rfl rfl ?_
    (apply rst (u := .agg [.str _, .int _ _, .int _ _, .int _ _, _]) rfl rfl rfl; (first | ((simp (disch := (first | omega | assumption)) only [↓appC, ↓updN, ↓updS, ↓app0, ↓hpS, ↓hpN]) <;> first | rfl | assumption) | ((simp (disch := (first | omega | (intro _ _; dsimp only; omega))) only [↓appC, ↓updN, ↓updS, ↓app0, ↓famAO]) <;> first | rfl | assumption) | assumption | rfl); rfl; rfl; rfl; rfl; rfl; (exact Nat.le_of_ble_eq_true rfl); rfl; rfl; rfl)
    refine rNil ?_
    refine qSeq ?_
    refine wSeq ?_
    refine wRegion ?_
    refine rfa (off := 4) (s := 1) (r := false) rfl rfl rfl (Nat.succ_ne_zero _) rfl rfl rfl ?_
    (apply rlc (v := .sl _ _ _) rfl rfl; (first | ((simp (disch := (first | omega | assumption)) only [↓appC, ↓updN, ↓updS, ↓app0, ↓hpS, ↓hpN]) <;> first | rfl | assumption) | ((simp (disch := (first | omega | (intro _ _; dsimp only; omega))) only [↓appC, ↓updN, ↓updS, ↓app0, ↓famAO]) <;> first | rfl | assumption) | assumption | rfl); rfl; rfl; rfl; rfl; rfl; rfl)
    refine rop (o91 fr (t.lk.getD i Lk0).ws (hW i (by omega))) rfl rfl rfl rfl rfl rfl ?_
    refine rfa (off := 4) (s := 1) (r := false) rfl rfl rfl (Nat.succ_ne_zero _) rfl rfl rfl ?_
    (apply rst (u := .view _ _ _) rfl rfl rfl; (first | ((simp (disch := (first | omega | assumption)) only [↓appC, ↓updN, ↓updS, ↓app0, ↓hpS, ↓hpN]) <;> first | rfl | assumption) | ((simp (disch := (first | omega | (intro _ _; dsimp only; omega))) only [↓appC, ↓updN, ↓updS, ↓app0, ↓famAO]) <;> first | rfl | assumption) | assumption | rfl); rfl; rfl; rfl; rfl; rfl; (exact Nat.le_of_ble_eq_true rfl); rfl; rfl; rfl)
    refine rNil ?_
    refine qSeq ?_
    refine wRegion ?_
    refine rfa (off := 2) (s := 1) (r := false) rfl rfl rfl (Nat.succ_ne_zero _) rfl rfl rfl ?_
    (apply rlc (v := .view _ _ _) rfl rfl; (first | ((simp (disch := (first | omega | assumption)) only [↓appC, ↓updN, ↓updS, ↓app0, ↓hpS, ↓hpN]) <;> first | rfl | assumption) | ((simp (disch := (first | omega | (intro _ _; dsimp only; omega))) only [↓appC, ↓updN, ↓updS, ↓app0, ↓famAO]) <;> first | rfl | assumption) | assumption | rfl); rfl; rfl; rfl; rfl; rfl; rfl)
    (apply rlr (vs := [.str _, .int _ _, .int _ _, .int _ _, _]) rfl rfl; (first | ((simp (disch := (first | omega | assumption)) only [↓appC, ↓updN, ↓updS, ↓app0, ↓hpS, ↓hpN]) <;> first | rfl | assumption) | ((simp (disch := (first | omega | (intro _ _; dsimp only; omega))) only [↓appC, ↓updN, ↓updS, ↓app0, ↓famAO]) <;> first | rfl | assumption) | assumption | rfl); rfl; rfl; (exact Nat.le_of_ble_eq_true rfl); rfl; rfl; rfl; rfl)
    refine rbs (es := [[.str _, .int _ _, .int _ _, .int _ _, _]]) rfl rfl rfl rfl (Nat.succ_ne_zero _) (Nat.le_of_ble_eq_true rfl) rfl rfl rfl rfl rfl ?_
    (apply rap (s' := 64) (es := [[.str _, .int _ _, .int _ _, .int _ _, _]]) rfl rfl; (first | ((simp (disch := (first | omega | assumption)) only [↓appC, ↓updN, ↓updS, ↓app0, ↓hpS, ↓hpN]) <;> first | rfl | assumption) | ((simp (disch := (first | omega | (intro _ _; dsimp only; omega))) only [↓appC, ↓updN, ↓updS, ↓app0, ↓famAO]) <;> first | rfl | assumption) | assumption | rfl); rfl; rfl; (first | rfl | (focus (simp; done)) | (focus (simp; omega))); rfl; rfl; exact (Nat.succ_ne_zero _); (first | rfl | (apply srcView rfl; (first | ((simp (disch := (first | omega | assumption)) only [↓appC, ↓updN, ↓updS, ↓app0, ↓hpS, ↓hpN]) <;> first | rfl | assumption) | ((simp (disch := (first | omega | (intro _ _; dsimp only; omega))) only [↓appC, ↓updN, ↓updS, ↓app0, ↓famAO]) <;> first | rfl | assumption) | assumption | rfl); (first | exact Nat.le_refl _ | omega); rfl)); (first | rfl | assumption | (focus (simp; done)) | (focus (intro _ hc; rw [List.mem_singleton] at hc; subst hc; rfl)) | (intro _ _; simp_all)); (first | omega | (focus (simp only [List.length_cons, List.length_nil]; omega)) | exact Nat.le_of_ble_eq_true rfl | ((show (_ + 1) * _ ≤ _); omega) | ((show _ + 1 ≤ _); omega)); (first | omega | (focus (simp only [List.length_cons, List.length_nil]; omega)) | exact Nat.le_of_ble_eq_true rfl | ((show (_ + 1) * _ ≤ _); omega) | ((show _ + 1 ≤ _); omega)); rfl; rfl; rfl)
    refine rfa (off := 2) (s := 1) (r := false) rfl rfl rfl (Nat.succ_ne_zero _) rfl rfl rfl ?_
    (apply rst (u := .view _ _ _) rfl rfl rfl; (first | ((simp (disch := (first | omega | assumption)) only [↓appC, ↓updN, ↓updS, ↓app0, ↓hpS, ↓hpN]) <;> first | rfl | assumption) | ((simp (disch := (first | omega | (intro _ _; dsimp only; omega))) only [↓appC, ↓updN, ↓updS, ↓app0, ↓famAO]) <;> first | rfl | assumption) | assumption | rfl); rfl; rfl; rfl; rfl; rfl; (exact Nat.le_of_ble_eq_true rfl); rfl; rfl; rfl)
    refine rNil ?_
    refine qBlock ?_
    refine qSeq ?_
    refine wRegion ?_
    refine raddF rfl rfl rfl ?_ ?_ rfl rfl rfl ?_
    · (first | omega | assumption | (focus (simp; omega)))
    · (first | omega | assumption | (focus (simp; omega)))
    refine rmI rfl rfl rfl rfl rfl ?_
    refine rNil ?_
    refine qLoop ?_
    refine wlH (ih (i + 1) ⟨by omega, by omega⟩ (by omega)) (by (repeat first | exact LE.nil _ | refine LE.unk _ _ ?_ | refine LE.eq _ _ _ rfl ?_)) (by
      refine lessFam (m := n) hz (fun j hj => ?_) (fun j hj => ?_) (fun j hl hf hn => ?_)
      · refine Eq.trans ?_ (famA (w := (fun i => n + 5 + 5 * i + 2)) (fun a b _ _ e => by (try dsimp only at e); omega) hj).symm
        (try dsimp only)
        by_cases e : j = i
        · rw [e]
          (simp (disch := omega) only [↓appC, ↓updN, ↓updS, ↓app0]) <;> rfl
        · simp (disch := omega) only [↓appC, ↓updN, ↓updS, ↓app0]
          exact famA (w := (fun i => n + 5 + 5 * i + 2)) (fun a b _ _ e => by (try dsimp only at e); omega) (show j < i by omega)
      · simp only [List.map_cons, List.map_nil, List.mem_cons, List.not_mem_nil, or_false] at hj
        refine Eq.trans ?_ (famAO (fun k _ => by rcases hj with e | e | e | e | e <;> rw [e] <;> (try dsimp only) <;> omega)).symm
        rcases hj with e | e | e | e | e <;> rw [e] <;> (simp (disch := (first | omega | (intro _ _; dsimp only; omega))) only [↓appC, ↓updN, ↓updS, ↓app0, ↓famAO]) <;> first | rfl | (first | exact congrArg (fun z => some (Blk.mk z 5 29)) (rgSnoc (fun i => n + 5 + 5 * i + 2) t.lk i) | exact congrArg (fun z => some (Blk.mk [[.int .i64 t.tm, .int .i64 t.nx, .view z 0 (i + 1), .view (n + 3) 0 t.sn.length]] 4 35)) (by omega))
      · simp only [List.map_cons, List.map_nil, List.mem_cons, List.not_mem_nil, or_false, not_or] at hn
        (try simp (disch := (first | omega | (intro k hk; exact hf k (by omega)))) only [↓appC, ↓updN, ↓updS, ↓app0, ↓famAO])) (by omega)
  · refine rNil ?_
    refine qSeq ?_
    refine wSeq ?_
    refine wF rfl ?_
    refine wExit ?_
    refine qSeqX ?_
    refine qLoopX ?_
    refine qBlockX ?_
    refine qSeq ?_
    refine wSeq ?_
    refine wRegion ?_
    (apply rlr (vs := [.int _ _, .int _ _, _, _]) rfl rfl; (first | ((simp (disch := (first | omega | assumption)) only [↓appC, ↓updN, ↓updS, ↓app0, ↓hpS, ↓hpN]) <;> first | rfl | assumption) | ((simp (disch := (first | omega | (intro _ _; dsimp only; omega))) only [↓appC, ↓updN, ↓updS, ↓app0, ↓famAO]) <;> first | rfl | assumption) | assumption | rfl); rfl; rfl; (exact Nat.le_of_ble_eq_true rfl); rfl; rfl; rfl; rfl)
    (apply rst (u := .agg [.int _ _, .int _ _, _, _]) rfl rfl rfl; (first | ((simp (disch := (first | omega | assumption)) only [↓appC, ↓updN, ↓updS, ↓app0, ↓hpS, ↓hpN]) <;> first | rfl | assumption) | ((simp (disch := (first | omega | (intro _ _; dsimp only; omega))) only [↓appC, ↓updN, ↓updS, ↓app0, ↓famAO]) <;> first | rfl | assumption) | assumption | rfl); rfl; rfl; rfl; rfl; rfl; (exact Nat.le_of_ble_eq_true rfl); rfl; rfl; rfl)
    refine rNil ?_
    refine qSeq ?_
    refine wRet ?_
    obtain rfl : i = t.lk.length := by omega
    refine finO (resL_cons (resV_row rfl (by (first | ((simp (disch := (first | omega | assumption)) only [↓appC, ↓updN, ↓updS, ↓app0, ↓hpS, ↓hpN]) <;> first | rfl | assumption) | ((simp (disch := (first | omega | (intro _ _; dsimp only; omega))) only [↓appC, ↓updN, ↓updS, ↓app0, ↓famAO]) <;> first | rfl | assumption) | assumption | rfl)) rfl rfl (Nat.le_of_ble_eq_true rfl) rfl) resL_nil) rfl ?_ (by omega)
    refine leFam (fun i hi => ?_) (fun j hj => ?_) (fun j hl hf hn => ?_)
    · refine Eq.trans ?_ (famA (w := (fun i => n + 5 + 5 * i + 2)) (fun a b _ _ e => by (try dsimp only at e); omega) hi).symm
      simp (disch := omega) only [↓appC, ↓updN, ↓app0]
      exact famA (w := (fun i => n + 5 + 5 * i + 2)) (fun a b _ _ e => by (try dsimp only at e); omega) hi
    · simp only [List.map_cons, List.map_nil, List.mem_cons, List.not_mem_nil, or_false] at hj
      refine Eq.trans ?_ (famAO (fun k _ => by rcases hj with e | e <;> rw [e] <;> (try dsimp only) <;> omega)).symm
      rcases hj with e | e <;> rw [e] <;> (simp (disch := (first | omega | (intro _ _; dsimp only; omega))) only [↓appC, ↓updN, ↓updS, ↓app0, ↓famAO]) <;> rfl
    · simp only [List.map_cons, List.map_nil, List.mem_cons, List.not_mem_nil, or_false, not_or] at hn
      simp (disch := (first | omega | (intro k hk; exact hf k (by omega)))) only [↓appC, ↓updN, ↓updS, ↓app0, ↓famAO]
end Go.Proofs.Ytknnniaoboaghaa
