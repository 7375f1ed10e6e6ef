import Derived.Test.YtcafccndgpopkaaDoorT9
namespace Go.Proofs.YtcafccndgpopkaaDoor
open Go.V
set_option linter.unusedVariables false
set_option linter.unusedSimpArgs false
set_option maxRecDepth 20000
set_option maxHeartbeats 4000000

def Rp.V (r : Rp) : List V := [.int .i64 r.nd, .int .i64 r.cl, .int .i64 r.st, .int .i64 r.an.kd, .int .i64 r.an.tk, .int .i64 r.an.hd, .int .i64 r.an.ex, .str r.mac]
theorem rowsRpV (fr : Bool) (L : List Rp) : ((L.map Rp.T).map fun r => r.map (T.toV fr)) = L.map Rp.V := by
  rw [List.map_map]; rfl
theorem rowsAnV (fr : Bool) (L : List An) : ((L.map An.T).map fun r => r.map (T.toV fr)) = L.map An.V := by
  rw [List.map_map]; rfl
theorem rowsRp2 (L : List Rp) : rowsV (L.map Rp.T) = L.map Rp.V := rowsRpV true L
theorem rowsAn2 (L : List An) : rowsV (L.map An.T) = L.map An.V := rowsAnV true L
theorem lenRpF (fr : Bool) (L : List Rp) : ∀ c ∈ (L.map Rp.T).map (fun r => r.map (T.toV fr)), c.length = 8 := by
  rw [rowsRpV]; intro c hc; obtain ⟨r, hr, rfl⟩ := List.mem_map.1 hc; rfl
theorem lenAnF (fr : Bool) (L : List An) : ∀ c ∈ (L.map An.T).map (fun r => r.map (T.toV fr)), c.length = 4 := by
  rw [rowsAnV]; intro c hc; obtain ⟨r, hr, rfl⟩ := List.mem_map.1 hc; rfl
def Cl.V (c : Cl) (s1 s2 : V) : List V := [.int .i64 c.id, .int .i64 c.st, .bool c.bz, .int .i64 c.rq.cl, .int .i64 c.rq.st, .int .i64 c.rq.kd, .int .i64 c.rq.le, .str c.rq.nm, s1, s2]
def Cl.U (c : Cl) (s1 s2 : _root_.Go.V.T) : List _root_.Go.V.T := [.int .i64 c.id, .int .i64 c.st, .bool c.bz, .int .i64 c.rq.cl, .int .i64 c.rq.st, .int .i64 c.rq.kd, .int .i64 c.rq.le, .str c.rq.nm, s1, s2]

theorem o33v (fr : Bool) (L : List Rp) (hL : L.length ≤ 1048576) {h : Heap} {n : Nat} : V.Open En 63 [.sl fr true (L.map Rp.T)] h n (.view (n + 1) 0 L.length) [(n + 1, some ⟨L.map Rp.V, 8, 44⟩)] (n + 2) := by
  refine V.Open.of_wp Tryd.func63 rfl (Nat.le_of_ble_eq_true rfl) ?_
  refine wSeq ?_
  refine wRegion ?_
  refine raN rfl rfl rfl rfl rfl ?_
  refine rNil ?_
  refine qSeq ?_
  refine wSeq ?_
  refine wSeq ?_
  refine wRegion ?_
  refine rmL rfl rfl rfl rfl rfl ?_
  refine rnil (c := false) rfl rfl rfl rfl rfl rfl ?_
  refine rNil ?_
  refine qSeq ?_
  refine wF rfl ?_
  refine wSkip ?_
  refine qSeq ?_
  refine wSeq ?_
  refine wRegion ?_
  refine rbs (es := []) rfl rfl rfl rfl (Nat.succ_ne_zero _) (Nat.le_of_ble_eq_true rfl) rfl rfl rfl rfl rfl ?_
  refine rmL rfl rfl rfl rfl rfl ?_
  (apply rap (s' := 72) rfl rfl; ((simp (disch := omega) only [↓app0, ↓appC, ↓updS, ↓updN]) <;> first | rfl | assumption); rfl; rfl; rfl; rfl; rfl; exact (Nat.succ_ne_zero _); rfl; exact (lenRpF fr L); (simp only [List.length_map]; omega); (simp only [List.length_map]; omega); rfl; rfl; rfl)
  refine raV rfl rfl rfl rfl rfl ?_
  refine rNil ?_
  refine qSeq ?_
  refine wRet ?_
  exact finO rfl (congrArg (V.view (n + 1) 0) (by simp)) (leWr (by
    intro j hj
    simp only [List.map_cons, List.map_nil, List.mem_cons, List.not_mem_nil, or_false] at hj
    rcases hj with rfl <;> (simp (disch := omega) only [↓app0, ↓appC, ↓updS, ↓updN]) <;> first | rfl | (exact congrArg (fun z => some (Blk.mk z 8 44)) (rowsRpV fr L))) (fun j hj hn => by
    simp only [List.map_cons, List.map_nil, List.mem_cons, List.not_mem_nil, or_false, not_or] at hn
    simp (disch := omega) only [↓app0, ↓appC, ↓updS, ↓updN])) (Nat.le_refl _)

theorem o34v (fr : Bool) (L : List An) (hL : L.length ≤ 1048576) {h : Heap} {n : Nat} : V.Open En 64 [.sl fr true (L.map An.T)] h n (.view (n + 1) 0 L.length) [(n + 1, some ⟨L.map An.V, 4, 42⟩)] (n + 2) := by
  refine V.Open.of_wp Tryd.func64 rfl (Nat.le_of_ble_eq_true rfl) ?_
  refine wSeq ?_
  refine wRegion ?_
  refine raN rfl rfl rfl rfl rfl ?_
  refine rNil ?_
  refine qSeq ?_
  refine wSeq ?_
  refine wSeq ?_
  refine wRegion ?_
  refine rmL rfl rfl rfl rfl rfl ?_
  refine rnil (c := false) rfl rfl rfl rfl rfl rfl ?_
  refine rNil ?_
  refine qSeq ?_
  refine wF rfl ?_
  refine wSkip ?_
  refine qSeq ?_
  refine wSeq ?_
  refine wRegion ?_
  refine rbs (es := []) rfl rfl rfl rfl (Nat.succ_ne_zero _) (Nat.le_of_ble_eq_true rfl) rfl rfl rfl rfl rfl ?_
  refine rmL rfl rfl rfl rfl rfl ?_
  (apply rap (s' := 32) rfl rfl; ((simp (disch := omega) only [↓app0, ↓appC, ↓updS, ↓updN]) <;> first | rfl | assumption); rfl; rfl; rfl; rfl; rfl; exact (Nat.succ_ne_zero _); rfl; exact (lenAnF fr L); (simp only [List.length_map]; omega); (simp only [List.length_map]; omega); rfl; rfl; rfl)
  refine raV rfl rfl rfl rfl rfl ?_
  refine rNil ?_
  refine qSeq ?_
  refine wRet ?_
  exact finO rfl (congrArg (V.view (n + 1) 0) (by simp)) (leWr (by
    intro j hj
    simp only [List.map_cons, List.map_nil, List.mem_cons, List.not_mem_nil, or_false] at hj
    rcases hj with rfl <;> (simp (disch := omega) only [↓app0, ↓appC, ↓updS, ↓updN]) <;> first | rfl | (exact congrArg (fun z => some (Blk.mk z 4 42)) (rowsAnV fr L))) (fun j hj hn => by
    simp only [List.map_cons, List.map_nil, List.mem_cons, List.not_mem_nil, or_false, not_or] at hn
    simp (disch := omega) only [↓app0, ↓appC, ↓updS, ↓updN])) (Nat.le_refl _)

theorem o16VV (c : Cl) (h1 : c.rps.length ≤ 1048576) (h2 : c.acc.length ≤ 1048576) {h : Heap} {n : Nat} : V.Open En 31 [.agg (c.V (.sl false true (c.rps.map Rp.T)) (.sl false true (c.acc.map An.T)))] h n (.agg (c.V (.view (n + 3) 0 c.rps.length) (.view (n + 5) 0 c.acc.length))) [(n + 3, some ⟨c.rps.map Rp.V, 8, 44⟩), (n + 5, some ⟨c.acc.map An.V, 4, 42⟩)] (n + 6) := by
  refine V.Open.of_wp Tryd.func31 rfl (Nat.le_of_ble_eq_true rfl) ?_
  refine wSeq ?_
  refine wRegion ?_
  refine rbx (u := .agg [.int _ _, .int _ _, .bool _, .int _ _, .int _ _, .int _ _, .int _ _, .str _, _, _]) rfl rfl rfl rfl rfl rfl rfl ?_
  refine ral rfl rfl rfl rfl rfl rfl ?_
  refine rNil ?_
  refine qSeq ?_
  refine wSeq ?_
  refine wDraw [0, 1, 3, 0, 8, 31, 31, 127, 255, 511] rfl (by decide +kernel) ?_
  refine dfa (off := 8) (s := 1) (r := false) rfl rfl rfl (Nat.succ_ne_zero _) rfl rfl rfl ?_
  (apply dlc  rfl rfl; (first | ((simp (disch := omega) only [↓app0, ↓appC, ↓updS, ↓updN, ↓hpS, ↓hpN]) <;> first | rfl | assumption) | assumption | rfl); rfl; rfl; rfl; rfl; rfl; rfl)
  refine dop (o33v false c.rps h1) rfl rfl rfl rfl rfl rfl ?_
  refine dfa (off := 9) (s := 1) (r := false) rfl rfl rfl (Nat.succ_ne_zero _) rfl rfl rfl ?_
  (apply dlc  rfl rfl; (first | ((simp (disch := omega) only [↓app0, ↓appC, ↓updS, ↓updN, ↓hpS, ↓hpN]) <;> first | rfl | assumption) | assumption | rfl); rfl; rfl; rfl; rfl; rfl; rfl)
  refine dop (o34v false c.acc h2) rfl rfl rfl rfl rfl rfl ?_
  refine dfa (off := 8) (s := 1) (r := false) rfl rfl rfl (Nat.succ_ne_zero _) rfl rfl rfl ?_
  (apply dst (u := .view _ _ _) rfl rfl rfl; (first | ((simp (disch := omega) only [↓app0, ↓appC, ↓updS, ↓updN, ↓hpS, ↓hpN]) <;> first | rfl | assumption) | assumption | rfl); rfl; rfl; rfl; rfl; rfl; (exact Nat.le_of_ble_eq_true rfl); rfl; rfl; rfl)
  refine dfa (off := 9) (s := 1) (r := false) rfl rfl rfl (Nat.succ_ne_zero _) rfl rfl rfl ?_
  (apply dst (u := .view _ _ _) rfl rfl rfl; (first | ((simp (disch := omega) only [↓app0, ↓appC, ↓updS, ↓updN, ↓hpS, ↓hpN]) <;> first | rfl | assumption) | assumption | rfl); rfl; rfl; rfl; rfl; rfl; (exact Nat.le_of_ble_eq_true rfl); rfl; rfl; rfl)
  refine dNilR 10 [3, 0, 3, 0, 3, 1, 0, 3, 1, 0] [(2, 4)] rfl rfl (by decide +kernel) ?_ ?_
  · (simp [ClearL, ids]; try omega)
  refine qSeq ?_
  refine wSeq ?_
  refine wRegion ?_
  (apply rlr (vs := [.int _ _, .int _ _, .bool _, .int _ _, .int _ _, .int _ _, .int _ _, .str _, _, _]) rfl rfl; (first | ((simp (disch := omega) only [↓app0, ↓appC, ↓updS, ↓updN, ↓hpS, ↓hpN]) <;> first | rfl | assumption) | assumption | rfl); rfl; rfl; (exact Nat.le_of_ble_eq_true rfl); rfl; rfl; rfl; rfl)
  (apply rst (u := .agg [.int _ _, .int _ _, .bool _, .int _ _, .int _ _, .int _ _, .int _ _, .str _, _, _]) rfl rfl rfl; (first | ((simp (disch := omega) only [↓app0, ↓appC, ↓updS, ↓updN, ↓hpS, ↓hpN]) <;> first | rfl | assumption) | assumption | rfl); rfl; rfl; rfl; rfl; rfl; (exact Nat.le_of_ble_eq_true rfl); rfl; rfl; rfl)
  refine rNil ?_
  refine qSeq ?_
  refine wRet ?_
  exact finO (resL_cons (resV_row rfl (by ((simp (disch := omega) only [↓app0, ↓appC, ↓updS, ↓updN]) <;> first | rfl | assumption)) rfl rfl (Nat.le_of_ble_eq_true rfl) rfl) resL_nil) rfl (leWr (by
    intro j hj
    simp only [List.map_cons, List.map_nil, List.mem_cons, List.not_mem_nil, or_false] at hj
    rcases hj with rfl | rfl <;> (simp (disch := omega) only [↓app0, ↓appC, ↓updS, ↓updN]) <;> first | rfl | (fail)) (fun j hj hn => by
    simp only [List.map_cons, List.map_nil, List.mem_cons, List.not_mem_nil, or_false, not_or] at hn
    simp (disch := omega) only [↓app0, ↓appC, ↓updS, ↓updN])) (Nat.le_refl _)

end Go.Proofs.YtcafccndgpopkaaDoor
