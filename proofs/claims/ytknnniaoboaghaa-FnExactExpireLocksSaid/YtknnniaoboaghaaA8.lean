import Derived.Test.YtknnniaoboaghaaA7
namespace Go.Proofs.Ytknnniaoboaghaa
open Go.V
set_option linter.unusedVariables false
set_option linter.unusedSimpArgs false
set_option maxRecDepth 20000
set_option maxHeartbeats 4000000

/-! The law's own: a table marked. -/
theorem kL_bd {k : Int} : ∀ {L : List Lk}, (∀ i, i < L.length → (L.getD i Lk0).ws.length ≤ 1048577) → k ≤ kL k L ∧ kL k L ≤ k + 2097160 * (L.length : Int)
  | [], _ => by unfold kL; constructor <;> simp
  | l :: r, h => by
    have h0 := h 0 (by simp)
    have ih := kL_bd (k := k + 4 + 2 * (l.ws.length : Int)) (L := r) (fun i hi => by simpa using h (i + 1) (by simpa using hi))
    unfold kL
    simp at h0
    rw [List.length_cons]
    omega
theorem o15 (t : Tb) (w : Nat → Nat) (k : Int) (hk : 0 ≤ k ∧ k ≤ 1000000) (hL : t.lk.length ≤ 1048577) (hW : ∀ i, i < t.lk.length → (t.lk.getD i Lk0).ws.length ≤ 1048577) (hS : t.sn.length ≤ 1048577) (hinj : ∀ i j, i < t.lk.length → j < t.lk.length → w i = w j → i = j) {lb sb : Nat} {h : Heap} {n : Nat} (hl : lb < n) (hs : sb < n) (hne : lb ≠ sb) (hlw : ∀ i, i < t.lk.length → w i ≠ lb) (hws : ∀ i, i < t.lk.length → w i ≠ sb) (hwn : ∀ i, i < t.lk.length → w i < n)
    (k1 : h lb = some ⟨lkR w t.lk, 5, 29⟩) (kf : ∀ i, i < t.lk.length → h (w i) = wsF t.lk i) (k2 : h sb = some ⟨t.sn.map Sn.V, 6, 115⟩) :
    V.Open En 15 [.agg [.int .i64 t.tm, .int .i64 t.nx, .view lb 0 t.lk.length, .view sb 0 t.sn.length], .int .i64 k] h n (.int .i64 (kL k t.lk + 6 * (t.sn.length : Int)))
      ([(lb, some ⟨lkR w (ML k t.lk), 5, 29⟩), (sb, some ⟨(MS (kL k t.lk) t.sn.length).map Sn.V, 6, 115⟩)] ++ famL w (wsF (ML k t.lk)) t.lk.length) (n + 1) := by
  have hbd := kL_bd (k := k) hW
  have hne2 : sb ≠ lb := fun e => hne e.symm
  have hwb : ∀ i, i < t.lk.length → w i ≠ n := fun i hi e => by have := hwn i hi; omega
  refine V.Open.of_wp Try.func15 rfl (Nat.le_of_ble_eq_true rfl) ?_
  refine wSeq ?_
  refine wRegion ?_
  refine rbx (u := .agg [.int _ _, .int _ _, _, _]) rfl rfl rfl rfl rfl rfl rfl ?_
  refine raI rfl rfl rfl rfl rfl ?_
  refine rNil ?_
  refine qSeq ?_
  refine wSeq ?_
  refine wRegion ?_
  refine rfa (off := 2) (s := 1) (r := false) rfl rfl rfl (Nat.succ_ne_zero _) rfl rfl rfl ?_
  (apply rlc (v := .view _ _ _) rfl rfl; (first | ((simp (disch := (first | omega | assumption)) only [↓appC, ↓updN, ↓updS, ↓app0, ↓hpS, ↓hpN]) <;> first | rfl | assumption) | ((simp (disch := (first | omega | assumption)) only [↓appC, ↓updN, ↓updS, ↓app0, ↓famAO]) <;> first | rfl | assumption) | assumption | rfl); rfl; rfl; rfl; rfl; rfl; rfl)
  refine rmI rfl rfl rfl rfl rfl ?_
  refine rop (o53 t.lk w k hk hL hW hinj (id := lb) ?_ ?_ ?_ ?_ ?_) rfl rfl rfl rfl rfl rfl ?_
  · (first | omega | assumption | (intro i hi; have := hwn i hi; omega) | (intro i hi; have := hwn i hi; (simp (disch := omega) only [↓appC, ↓updN, ↓app0]); exact kf i hi) | (first | ((simp (disch := (first | omega | assumption)) only [↓appC, ↓updN, ↓updS, ↓app0, ↓hpS, ↓hpN]) <;> first | rfl | assumption) | ((simp (disch := (first | omega | assumption)) only [↓appC, ↓updN, ↓updS, ↓app0, ↓famAO]) <;> first | rfl | assumption) | assumption | rfl))
  · (first | omega | assumption | (intro i hi; have := hwn i hi; omega) | (intro i hi; have := hwn i hi; (simp (disch := omega) only [↓appC, ↓updN, ↓app0]); exact kf i hi) | (first | ((simp (disch := (first | omega | assumption)) only [↓appC, ↓updN, ↓updS, ↓app0, ↓hpS, ↓hpN]) <;> first | rfl | assumption) | ((simp (disch := (first | omega | assumption)) only [↓appC, ↓updN, ↓updS, ↓app0, ↓famAO]) <;> first | rfl | assumption) | assumption | rfl))
  · (first | omega | assumption | (intro i hi; have := hwn i hi; omega) | (intro i hi; have := hwn i hi; (simp (disch := omega) only [↓appC, ↓updN, ↓app0]); exact kf i hi) | (first | ((simp (disch := (first | omega | assumption)) only [↓appC, ↓updN, ↓updS, ↓app0, ↓hpS, ↓hpN]) <;> first | rfl | assumption) | ((simp (disch := (first | omega | assumption)) only [↓appC, ↓updN, ↓updS, ↓app0, ↓famAO]) <;> first | rfl | assumption) | assumption | rfl))
  · (first | omega | assumption | (intro i hi; have := hwn i hi; omega) | (intro i hi; have := hwn i hi; (simp (disch := omega) only [↓appC, ↓updN, ↓app0]); exact kf i hi) | (first | ((simp (disch := (first | omega | assumption)) only [↓appC, ↓updN, ↓updS, ↓app0, ↓hpS, ↓hpN]) <;> first | rfl | assumption) | ((simp (disch := (first | omega | assumption)) only [↓appC, ↓updN, ↓updS, ↓app0, ↓famAO]) <;> first | rfl | assumption) | assumption | rfl))
  · (first | omega | assumption | (intro i hi; have := hwn i hi; omega) | (intro i hi; have := hwn i hi; (simp (disch := omega) only [↓appC, ↓updN, ↓app0]); exact kf i hi) | (first | ((simp (disch := (first | omega | assumption)) only [↓appC, ↓updN, ↓updS, ↓app0, ↓hpS, ↓hpN]) <;> first | rfl | assumption) | ((simp (disch := (first | omega | assumption)) only [↓appC, ↓updN, ↓updS, ↓app0, ↓famAO]) <;> first | rfl | assumption) | assumption | rfl))
  refine raI rfl rfl rfl rfl rfl ?_
  refine rNil ?_
  refine qSeq ?_
  refine wSeq ?_
  refine wRegion ?_
  refine rfa (off := 3) (s := 1) (r := false) rfl rfl rfl (Nat.succ_ne_zero _) rfl rfl rfl ?_
  (apply rlc (v := .view _ _ _) rfl rfl; (first | ((simp (disch := (first | omega | assumption)) only [↓appC, ↓updN, ↓updS, ↓app0, ↓hpS, ↓hpN]) <;> first | rfl | assumption) | ((simp (disch := (first | omega | assumption)) only [↓appC, ↓updN, ↓updS, ↓app0, ↓famAO]) <;> first | rfl | assumption) | assumption | rfl); rfl; rfl; rfl; rfl; rfl; rfl)
  refine rmI rfl rfl rfl rfl rfl ?_
  refine rop (o54 t.sn (kL k t.lk) (by omega) hS (id := sb) ?_ ?_) rfl rfl rfl rfl rfl rfl ?_
  · (first | omega | assumption | (intro i hi; have := hwn i hi; omega) | (intro i hi; have := hwn i hi; (simp (disch := omega) only [↓appC, ↓updN, ↓app0]); exact kf i hi) | (first | ((simp (disch := (first | omega | assumption)) only [↓appC, ↓updN, ↓updS, ↓app0, ↓hpS, ↓hpN]) <;> first | rfl | assumption) | ((simp (disch := (first | omega | assumption)) only [↓appC, ↓updN, ↓updS, ↓app0, ↓famAO]) <;> first | rfl | assumption) | assumption | rfl))
  · (first | omega | assumption | (intro i hi; have := hwn i hi; omega) | (intro i hi; have := hwn i hi; (simp (disch := omega) only [↓appC, ↓updN, ↓app0]); exact kf i hi) | (first | ((simp (disch := (first | omega | assumption)) only [↓appC, ↓updN, ↓updS, ↓app0, ↓hpS, ↓hpN]) <;> first | rfl | assumption) | ((simp (disch := (first | omega | assumption)) only [↓appC, ↓updN, ↓updS, ↓app0, ↓famAO]) <;> first | rfl | assumption) | assumption | rfl))
  refine raI rfl rfl rfl rfl rfl ?_
  refine rNil ?_
  refine qSeq ?_
  refine wSeq ?_
  refine wRegion ?_
  refine rmI rfl rfl rfl rfl rfl ?_
  refine raI rfl rfl rfl rfl rfl ?_
  refine rNil ?_
  refine qSeq ?_
  refine wRet ?_
  refine finO rfl rfl ?_ (Nat.le_refl _)
  refine leFam (fun i hi => ?_) (fun j hj => ?_) (fun j hl hf hn => ?_)
  · rw [famA hinj hi]
    have e1 := hws i hi
    have e2 := hlw i hi
    simp (disch := (first | omega | assumption)) only [↓appC, ↓updN, ↓app0]
    exact famA hinj hi
  · simp only [List.map_cons, List.map_nil, List.mem_cons, List.not_mem_nil, or_false] at hj
    rcases hj with e | e
    · rw [e]
      refine Eq.trans ?_ (famAO hlw).symm
      simp (disch := (first | omega | assumption)) only [↓appC, ↓updN, ↓updS, ↓app0, ↓famAO]
    · rw [e]
      refine Eq.trans ?_ (famAO hws).symm
      simp (disch := (first | omega | assumption)) only [↓appC, ↓updN, ↓updS, ↓app0, ↓famAO]
  · simp only [List.map_cons, List.map_nil, List.mem_cons, List.not_mem_nil, or_false, not_or] at hn
    have e1 : ¬ j = lb := hn.1
    have e2 : ¬ j = sb := hn.2
    simp (disch := (first | omega | assumption)) only [↓appC, ↓updN, ↓updS, ↓app0, ↓famAO]
end Go.Proofs.Ytknnniaoboaghaa
