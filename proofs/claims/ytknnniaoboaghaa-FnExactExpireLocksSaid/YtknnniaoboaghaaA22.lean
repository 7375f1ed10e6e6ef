import Derived.Test.YtknnniaoboaghaaA21
import Derived.Test.YtknnniaoboaghaaVt
import Derived.Test.YtknnniaoboaghaaA20
namespace Go.Proofs.Ytknnniaoboaghaa
open Go.V
set_option linter.unusedVariables false
set_option linter.unusedSimpArgs false
set_option maxRecDepth 20000
set_option maxHeartbeats 4000000

/-! FnExactExpireLocks: the law's walk. -/
theorem flatW : ∀ (wr : List (Nat × Option Blk)) (h : Heap), (∀ p ∈ wr, ∀ b, p.2 = some b → ∀ e ∈ b.es, ∀ x ∈ e, x.flat = true) → (∀ id b, h id = some b → ∀ e ∈ b.es, ∀ x ∈ e, x.flat = true) → ∀ id b, app wr h id = some b → ∀ e ∈ b.es, ∀ x ∈ e, x.flat = true
  | [], h, _, h2, id, b, hb => h2 id b hb
  | (k, o) :: r, h, h1, h2, id, b, hb => by
    refine flatW r (upd h k o) (fun p hp => h1 p (List.mem_cons_of_mem _ hp)) (fun i b' hb' => ?_) id b hb
    by_cases hi : i = k
    · subst hi; rw [upd_same] at hb'; exact h1 _ List.mem_cons_self b' hb'
    · rw [upd_ne _ _ hi] at hb'; exact h2 i b' hb'
theorem flatW0 (wr : List (Nat × Option Blk)) (h1 : ∀ p ∈ wr, ∀ b, p.2 = some b → ∀ e ∈ b.es, ∀ x ∈ e, x.flat = true) : ∀ id b, app wr (fun _ => none) id = some b → ∀ e ∈ b.es, ∀ x ∈ e, x.flat = true :=
  flatW wr _ h1 (fun _ _ h => nomatch h)
theorem flatTb {a b : Nat} {w : Nat → Nat} {Q : Nat → List (List V)} {X : Tb} (hQ : ∀ i, ∀ e ∈ Q i, ∀ x ∈ e, x.flat = true) : ∀ id c, app ([(a, some ⟨X.sn.map Sn.V, 6, 115⟩), (b, some ⟨lkP w Q X.lk, 5, 29⟩)] ++ famL w (wsP Q X.lk) X.lk.length) (fun _ => none) id = some c → ∀ e ∈ c.es, ∀ x ∈ e, x.flat = true := flatW0 _ fun p hp c hc e he x hx => by
  rcases List.mem_append.1 hp with hp | hp
  · simp only [List.mem_cons, List.not_mem_nil, or_false] at hp
    rcases hp with rfl | rfl
    · cases hc
      obtain ⟨s, _, rfl⟩ := List.mem_map.1 he
      simp only [Sn.V, List.mem_cons, List.not_mem_nil, or_false] at hx
      rcases hx with rfl | rfl | rfl | rfl | rfl | rfl <;> rfl
    · cases hc
      obtain ⟨i, _, rfl⟩ := List.mem_map.1 he
      simp only [rwP, Lk.V, List.mem_cons, List.not_mem_nil, or_false] at hx
      rcases hx with rfl | rfl | rfl | rfl | rfl <;> rfl
  · obtain ⟨i, hi, rfl⟩ := List.mem_map.1 hp
    cases hc
    rcases List.mem_append.1 he with he | he
    · exact hQ i e he x hx
    · obtain ⟨s, _, rfl⟩ := List.mem_map.1 he
      simp only [wtV, List.mem_cons, List.not_mem_nil, or_false] at hx
      rcases hx with rfl | rfl <;> rfl
theorem o53n (k : Int) {h : Heap} {n : Nat} : V.Open En 53 [.nsl, .int .i64 k] h n (.int .i64 k) [] n := by
  refine V.Open.of_wp Try.func53 rfl (Nat.le_of_ble_eq_true rfl) ?_
  refine wSeq ?_
  refine wRegion ?_
  refine raI rfl rfl rfl rfl rfl ?_
  refine rNil ?_
  refine qSeq ?_
  refine wSeq ?_
  refine wSeq ?_
  refine wRegion ?_
  refine raI rfl rfl rfl rfl rfl ?_
  refine rNil ?_
  refine qSeq ?_
  refine wBlock ?_
  refine wLoop ?_
  refine lStep ?_
  refine wSeq ?_
  refine wSeq ?_
  refine wRegion ?_
  refine rmI rfl rfl rfl rfl rfl ?_
  refine rmN rfl rfl rfl rfl rfl ?_
  refine rll rfl rfl rfl rfl rfl rfl ?_
  refine rlt rfl rfl rfl rfl rfl rfl (fun h => absurd h (by decide)) ?_
  intro h2_3
  refine rNil ?_
  refine qSeq ?_
  refine wF rfl ?_
  refine wExit ?_
  refine qSeqX ?_
  refine qLoopX ?_
  refine qBlockX ?_
  refine qSeq ?_
  refine wSeq ?_
  refine wRegion ?_
  refine rmI rfl rfl rfl rfl rfl ?_
  refine raI rfl rfl rfl rfl rfl ?_
  refine rNil ?_
  refine qSeq ?_
  refine wRet ?_
  exact finO rfl rfl (fun _ _ _ e => e) (Nat.le_refl _)
theorem o54n (k : Int) {h : Heap} {n : Nat} : V.Open En 54 [.nsl, .int .i64 k] h n (.int .i64 k) [] n := by
  refine V.Open.of_wp Try.func54 rfl (Nat.le_of_ble_eq_true rfl) ?_
  refine wSeq ?_
  refine wRegion ?_
  refine raI rfl rfl rfl rfl rfl ?_
  refine rNil ?_
  refine qSeq ?_
  refine wSeq ?_
  refine wSeq ?_
  refine wRegion ?_
  refine raI rfl rfl rfl rfl rfl ?_
  refine rNil ?_
  refine qSeq ?_
  refine wBlock ?_
  refine wLoop ?_
  refine lStep ?_
  refine wSeq ?_
  refine wSeq ?_
  refine wRegion ?_
  refine rmI rfl rfl rfl rfl rfl ?_
  refine rmN rfl rfl rfl rfl rfl ?_
  refine rll rfl rfl rfl rfl rfl rfl ?_
  refine rlt rfl rfl rfl rfl rfl rfl (fun h => absurd h (by decide)) ?_
  intro h2_3
  refine rNil ?_
  refine qSeq ?_
  refine wF rfl ?_
  refine wExit ?_
  refine qSeqX ?_
  refine qLoopX ?_
  refine qBlockX ?_
  refine qSeq ?_
  refine wSeq ?_
  refine wRegion ?_
  refine rmI rfl rfl rfl rfl rfl ?_
  refine raI rfl rfl rfl rfl rfl ?_
  refine rNil ?_
  refine qSeq ?_
  refine wRet ?_
  exact finO rfl rfl (fun _ _ _ e => e) (Nat.le_refl _)
theorem o15z (tm nx : Int) (L : List Sn) (k : Int) (hk : 0 ≤ k ∧ k ≤ 1000000) (hS : L.length ≤ 1048577) {sb : Nat} {h : Heap} {n : Nat} (hs : sb < n) (k2 : h sb = some ⟨L.map Sn.V, 6, 115⟩) : V.Open En 15 [.agg [.int .i64 tm, .int .i64 nx, .nsl, .view sb 0 L.length], .int .i64 k] h n (.int .i64 (k + 6 * (L.length : Int))) [(sb, some ⟨(MS k L.length).map Sn.V, 6, 115⟩)] (n + 1) := by
  refine V.Open.of_wp Try.func15 rfl (Nat.le_of_ble_eq_true rfl) ?_
  refine wSeq ?_
  refine wRegion ?_
  refine rbx (u := .agg [.int _ _, .int _ _, _, _]) rfl rfl rfl rfl rfl rfl rfl ?_
  refine raI rfl rfl rfl rfl rfl ?_
  refine rNil ?_
  refine qSeq ?_
  refine wSeq ?_
  refine wRegion ?_
  refine rfa (off := 2) (s := 1) (r := false) rfl rfl rfl (Nat.succ_ne_zero _) rfl rfl rfl ?_
  (apply rlc (v := .nsl) rfl rfl; (first | ((simp (disch := omega) only [↓app0, ↓appC, ↓updS, ↓updN, ↓hpS, ↓hpN]) <;> first | rfl | assumption) | assumption | rfl); rfl; rfl; rfl; rfl; rfl; rfl)
  refine rmI rfl rfl rfl rfl rfl ?_
  refine rop (o53n k) rfl rfl rfl rfl rfl rfl ?_
  refine raI rfl rfl rfl rfl rfl ?_
  refine rNil ?_
  refine qSeq ?_
  refine wSeq ?_
  refine wRegion ?_
  refine rfa (off := 3) (s := 1) (r := false) rfl rfl rfl (Nat.succ_ne_zero _) rfl rfl rfl ?_
  (apply rlc (v := .view _ _ _) rfl rfl; (first | ((simp (disch := omega) only [↓app0, ↓appC, ↓updS, ↓updN, ↓hpS, ↓hpN]) <;> first | rfl | assumption) | assumption | rfl); rfl; rfl; rfl; rfl; rfl; rfl)
  refine rmI rfl rfl rfl rfl rfl ?_
  refine rop (o54 L k (by omega) hS (id := sb) ?_ ?_) rfl rfl rfl rfl rfl rfl ?_
  · (first | omega | (first | ((simp (disch := omega) only [↓app0, ↓appC, ↓updS, ↓updN, ↓hpS, ↓hpN]) <;> first | rfl | assumption) | assumption | rfl))
  · (first | omega | (first | ((simp (disch := omega) only [↓app0, ↓appC, ↓updS, ↓updN, ↓hpS, ↓hpN]) <;> first | rfl | assumption) | assumption | rfl))
  refine raI rfl rfl rfl rfl rfl ?_
  refine rNil ?_
  refine qSeq ?_
  refine wSeq ?_
  refine wRegion ?_
  refine rmI rfl rfl rfl rfl rfl ?_
  refine raI rfl rfl rfl rfl rfl ?_
  refine rNil ?_
  refine qSeq ?_
  refine wRet ?_
  exact finO rfl rfl (leWr (by
    intro jx hjx
    simp only [List.map_cons, List.map_nil, List.mem_cons, List.not_mem_nil, or_false] at hjx
    rcases hjx with rfl <;> (simp (disch := omega) only [↓appC, ↓updN, ↓updS, ↓app0])) (fun jx hjx hn => by
    simp only [List.map_cons, List.map_nil, List.mem_cons, List.not_mem_nil, or_false, not_or] at hn
    (simp (disch := omega) only [↓appC, ↓updN, ↓updS, ↓app0]))) (Nat.le_refl _)
theorem o15e (tm nx k : Int) {h : Heap} {n : Nat} : V.Open En 15 [.agg [.int .i64 tm, .int .i64 nx, .nsl, .nsl], .int .i64 k] h n (.int .i64 k) [] (n + 1) := by
  refine V.Open.of_wp Try.func15 rfl (Nat.le_of_ble_eq_true rfl) ?_
  refine wSeq ?_
  refine wRegion ?_
  refine rbx (u := .agg [.int _ _, .int _ _, _, _]) rfl rfl rfl rfl rfl rfl rfl ?_
  refine raI rfl rfl rfl rfl rfl ?_
  refine rNil ?_
  refine qSeq ?_
  refine wSeq ?_
  refine wRegion ?_
  refine rfa (off := 2) (s := 1) (r := false) rfl rfl rfl (Nat.succ_ne_zero _) rfl rfl rfl ?_
  (apply rlc (v := .nsl) rfl rfl; (first | ((simp (disch := omega) only [↓app0, ↓appC, ↓updS, ↓updN, ↓hpS, ↓hpN]) <;> first | rfl | assumption) | assumption | rfl); rfl; rfl; rfl; rfl; rfl; rfl)
  refine rmI rfl rfl rfl rfl rfl ?_
  refine rop (o53n k) rfl rfl rfl rfl rfl rfl ?_
  refine raI rfl rfl rfl rfl rfl ?_
  refine rNil ?_
  refine qSeq ?_
  refine wSeq ?_
  refine wRegion ?_
  refine rfa (off := 3) (s := 1) (r := false) rfl rfl rfl (Nat.succ_ne_zero _) rfl rfl rfl ?_
  (apply rlc (v := .nsl) rfl rfl; (first | ((simp (disch := omega) only [↓app0, ↓appC, ↓updS, ↓updN, ↓hpS, ↓hpN]) <;> first | rfl | assumption) | assumption | rfl); rfl; rfl; rfl; rfl; rfl; rfl)
  refine rmI rfl rfl rfl rfl rfl ?_
  refine rop (o54n k) rfl rfl rfl rfl rfl rfl ?_
  refine raI rfl rfl rfl rfl rfl ?_
  refine rNil ?_
  refine qSeq ?_
  refine wSeq ?_
  refine wRegion ?_
  refine rmI rfl rfl rfl rfl rfl ?_
  refine raI rfl rfl rfl rfl rfl ?_
  refine rNil ?_
  refine qSeq ?_
  refine wRet ?_
  exact finO rfl rfl (fun hz j b hj => by
    have : j < n := by
      rcases Nat.lt_or_ge j n with h1 | h1
      · exact h1
      · rw [show app [] h j = h j from rfl, hz j h1] at hj; cases hj
    first | exact hj | ((simp (disch := omega) only [↓app0, ↓appC, ↓updS, ↓updN]); exact hj)) (Nat.le_refl _)
theorem expE (t : Tb) (now : Int) (n1 n2 : Bool) (xt xn code : Int) (hL : t.lk.length ≤ 1048576) (hW : ∀ i, i < t.lk.length → (t.lk.getD i Lk0).ws.length ≤ 1048576) (hS : t.sn.length ≤ 1048576)
    (hm : t.lk.length ≤ 9223372036854775807) (hz : ∀ i, i < t.lk.length → (t.lk.getD i Lk0).nm.size ≤ 9223372036854775807 ∧ (t.lk.getD i Lk0).ws.length ≤ 9223372036854775807) (ha : t.sn.length ≤ 9223372036854775807) (hS18 : Pure En 18 [.agg (t.T true true true), .one (.int .i64 now)] [.agg ((Tb.mk xt xn [] []).T true false false), .one (.int .i64 code)]) (hI : ∀ n, V.Open En 19 ([A.agg (t.T true true true), A.one (.int .i64 now)].map (A.toV false)) (fun _ => none) n (.tup [.agg [.int .i64 xt, .int .i64 xn, .nsl, .nsl], .int .i64 code]) [(n, none)] (n + 2)) :
    Pure En 4 [.agg (t.T false n1 n2), .one (.int .i64 now)] [.one (.bool true)] := by
  have hX3 : ([] : List Sn).length ≤ 1048577 := Nat.zero_le _
  refine Pure.of_wp Try.func4 rfl (Nat.le_of_ble_eq_true rfl) ?_
  refine wSeq ?_
  refine wRegion ?_
  refine rbx (u := .agg [.int _ _, .int _ _, _, _]) rfl rfl rfl rfl rfl rfl rfl ?_
  refine raB rfl rfl rfl rfl rfl ?_
  refine rNil ?_
  refine qSeq ?_
  refine wSeq ?_
  refine wRegion ?_
  refine raI rfl rfl rfl rfl rfl ?_
  refine rNil ?_
  refine qSeq ?_
  refine wSeq ?_
  refine wRegion ?_
  (apply rlr (vs := [.int _ _, .int _ _, _, _]) rfl rfl; (first | ((simp (disch := (first | omega | assumption)) only [↓appC, ↓updN, ↓updS, ↓app0, ↓hpS, ↓hpN]) <;> first | rfl | assumption) | ((simp (disch := (first | omega | (intro _ _; dsimp only; omega))) only [↓appC, ↓updN, ↓updS, ↓app0, ↓famAO]) <;> first | rfl | assumption) | assumption | rfl); rfl; rfl; (exact Nat.le_of_ble_eq_true rfl); rfl; rfl; rfl; rfl)
  refine rmI rfl rfl rfl rfl rfl ?_
  refine rclX (s9 n1 n2 false t 1048576 (by omega) hm hz ha) rfl rfl rfl rfl rfl rfl ?_
  rintro x h2_2
  try dsimp only at h2_2
  refine raI rfl rfl rfl rfl rfl ?_
  refine rNil ?_
  refine qSeq ?_
  refine wSeq ?_
  refine wSeq ?_
  refine wRegion ?_
  refine rmI rfl rfl rfl rfl rfl ?_
  refine rlt rfl rfl rfl rfl rfl rfl ?_ ?_ <;> intro h3_1
  · refine rNil ?_
    refine qSeq ?_
    refine wT rfl ?_
    refine wSeq ?_
    refine wRegion ?_
    refine raB rfl rfl rfl rfl rfl ?_
    refine rNil ?_
    refine qSeq ?_
    refine wRet ?_
    refine qSeqR ?_
    exact fin rfl rfl
  · refine rNil ?_
    refine qSeq ?_
    refine wF rfl ?_
    refine wSkip ?_
    refine qSeq ?_
    refine wSeq ?_
    refine wRegion ?_
    (apply rlr (vs := [.int _ _, .int _ _, _, _]) rfl rfl; (first | ((simp (disch := (first | omega | assumption)) only [↓appC, ↓updN, ↓updS, ↓app0, ↓hpS, ↓hpN]) <;> first | rfl | assumption) | ((simp (disch := (first | omega | (intro _ _; dsimp only; omega))) only [↓appC, ↓updN, ↓updS, ↓app0, ↓famAO]) <;> first | rfl | assumption) | assumption | rfl); rfl; rfl; (exact Nat.le_of_ble_eq_true rfl); rfl; rfl; rfl; rfl)
    refine rop (o11 t false n1 n2 hL hW hS) rfl rfl rfl rfl rfl rfl ?_
    refine rmI rfl rfl rfl rfl rfl ?_
    apply rclS ([1 + 3, 1 + 3 + 1 + 4 * t.lk.length] ++ (List.range t.lk.length).map (fun i => 1 + 3 + 1 + 4 * i + 3)) hS18 rfl rfl rfl
    · exact (SnapL.cons _ _ _ _ (snapTb (w := (fun i => 1 + 3 + 1 + 4 * i + 3)) (List.mem_append_left _ List.mem_cons_self) (List.mem_append_left _ (List.mem_cons_of_mem _ List.mem_cons_self)) (fun i hi => List.mem_append_right _ (List.mem_map.2 ⟨i, List.mem_range.2 hi, rfl⟩)) (by (first | ((simp (disch := (first | omega | assumption)) only [↓appC, ↓updN, ↓updS, ↓app0, ↓hpS, ↓hpN]) <;> first | rfl | assumption) | ((simp (disch := (first | omega | (intro _ _; dsimp only; omega))) only [↓appC, ↓updN, ↓updS, ↓app0, ↓famAO]) <;> first | rfl | assumption) | assumption | rfl)) (fun i hi => by (try (simp (disch := (first | omega | (intro _ _; dsimp only; omega))) only [↓appC, ↓updN, ↓updS, ↓app0, ↓famAO])); exact famA (w := (fun i => 1 + 3 + 1 + 4 * i + 3)) (fun a b _ _ e => by (try dsimp only at e); omega) hi) (by (first | ((simp (disch := (first | omega | assumption)) only [↓appC, ↓updN, ↓updS, ↓app0, ↓hpS, ↓hpN]) <;> first | rfl | assumption) | ((simp (disch := (first | omega | (intro _ _; dsimp only; omega))) only [↓appC, ↓updN, ↓updS, ↓app0, ↓famAO]) <;> first | rfl | assumption) | assumption | rfl)) rfl rfl) (SnapL.cons _ _ _ _ (.one _ _ (.int _ _)) SnapL.nil))
    · rfl
    · rfl
    · rfl
    refine rmT rfl rfl rfl rfl rfl ?_
    refine rex rfl rfl rfl rfl rfl rfl ?_
    refine rex rfl rfl rfl rfl rfl rfl ?_
    refine ral rfl rfl rfl rfl rfl rfl ?_
    (apply rst (u := .agg [.int _ _, .int _ _, _, _]) rfl rfl rfl; (first | ((simp (disch := (first | omega | assumption)) only [↓appC, ↓updN, ↓updS, ↓app0, ↓hpS, ↓hpN]) <;> first | rfl | assumption) | ((simp (disch := (first | omega | (intro _ _; dsimp only; omega))) only [↓appC, ↓updN, ↓updS, ↓app0, ↓famAO]) <;> first | rfl | assumption) | assumption | rfl); rfl; rfl; rfl; rfl; rfl; (exact Nat.le_of_ble_eq_true rfl); rfl; rfl; rfl)
    refine raI rfl rfl rfl rfl rfl ?_
    refine rNil ?_
    refine qSeq ?_
    refine wSeq ?_
    refine wRegion ?_
    (apply rlr (vs := [.int _ _, .int _ _, _, _]) rfl rfl; (first | ((simp (disch := (first | omega | assumption)) only [↓appC, ↓updN, ↓updS, ↓app0, ↓hpS, ↓hpN]) <;> first | rfl | assumption) | ((simp (disch := (first | omega | (intro _ _; dsimp only; omega))) only [↓appC, ↓updN, ↓updS, ↓app0, ↓famAO]) <;> first | rfl | assumption) | assumption | rfl); rfl; rfl; (exact Nat.le_of_ble_eq_true rfl); rfl; rfl; rfl; rfl)
    refine rop (o11 t false n1 n2 hL hW hS) rfl rfl rfl rfl rfl rfl ?_
    refine ral rfl rfl rfl rfl rfl rfl ?_
    (apply rst (u := .agg [.int _ _, .int _ _, _, _]) rfl rfl rfl; (first | ((simp (disch := (first | omega | assumption)) only [↓appC, ↓updN, ↓updS, ↓app0, ↓hpS, ↓hpN]) <;> first | rfl | assumption) | ((simp (disch := (first | omega | (intro _ _; dsimp only; omega))) only [↓appC, ↓updN, ↓updS, ↓app0, ↓famAO]) <;> first | rfl | assumption) | assumption | rfl); rfl; rfl; rfl; rfl; rfl; (exact Nat.le_of_ble_eq_true rfl); rfl; rfl; rfl)
    refine rNil ?_
    refine qSeq ?_
    refine wSeq ?_
    refine wRegion ?_
    (apply rlr (vs := [.int _ _, .int _ _, _, _]) rfl rfl; (first | ((simp (disch := (first | omega | assumption)) only [↓appC, ↓updN, ↓updS, ↓app0, ↓hpS, ↓hpN]) <;> first | rfl | assumption) | ((simp (disch := (first | omega | (intro _ _; dsimp only; omega))) only [↓appC, ↓updN, ↓updS, ↓app0, ↓famAO]) <;> first | rfl | assumption) | assumption | rfl); rfl; rfl; (exact Nat.le_of_ble_eq_true rfl); rfl; rfl; rfl; rfl)
    refine rmI rfl rfl rfl rfl rfl ?_
    (apply rfs ([1 + 5 + 4 * t.lk.length + 1 + 3, 1 + 5 + 4 * t.lk.length + 1 + 3 + 1 + 4 * t.lk.length] ++ (List.range t.lk.length).map (fun i => 1 + 5 + 4 * t.lk.length + 1 + 3 + 1 + 4 * i + 3)) (hI _) rfl rfl rfl; (exact (SnapL.cons _ _ _ _ (snapTb (w := (fun i => 1 + 5 + 4 * t.lk.length + 1 + 3 + 1 + 4 * i + 3)) (List.mem_append_left _ List.mem_cons_self) (List.mem_append_left _ (List.mem_cons_of_mem _ List.mem_cons_self)) (fun i hi => List.mem_append_right _ (List.mem_map.2 ⟨i, List.mem_range.2 hi, rfl⟩)) (by (first | ((simp (disch := (first | omega | assumption)) only [↓appC, ↓updN, ↓updS, ↓app0, ↓hpS, ↓hpN]) <;> first | rfl | assumption) | ((simp (disch := (first | omega | (intro _ _; dsimp only; omega))) only [↓appC, ↓updN, ↓updS, ↓app0, ↓famAO]) <;> first | rfl | assumption) | assumption | rfl)) (fun i hi => by (try (simp (disch := (first | omega | (intro _ _; dsimp only; omega))) only [↓appC, ↓updN, ↓updS, ↓app0, ↓famAO])); exact famA (w := (fun i => 1 + 5 + 4 * t.lk.length + 1 + 3 + 1 + 4 * i + 3)) (fun a b _ _ e => by (try dsimp only at e); omega) hi) (by (first | ((simp (disch := (first | omega | assumption)) only [↓appC, ↓updN, ↓updS, ↓app0, ↓hpS, ↓hpN]) <;> first | rfl | assumption) | ((simp (disch := (first | omega | (intro _ _; dsimp only; omega))) only [↓appC, ↓updN, ↓updS, ↓app0, ↓famAO]) <;> first | rfl | assumption) | assumption | rfl)) rfl rfl) (SnapL.cons _ _ _ _ (.one _ _ (.int _ _)) SnapL.nil))); rfl; (exact fun id b h => absurd h (noneW id b)); exact List.cons_ne_nil _ _; rfl; rfl; rfl)
    refine rmT rfl rfl rfl rfl rfl ?_
    refine rex rfl rfl rfl rfl rfl rfl ?_
    refine rex rfl rfl rfl rfl rfl rfl ?_
    refine ral rfl rfl rfl rfl rfl rfl ?_
    (apply rst (u := .agg [.int _ _, .int _ _, _, _]) rfl rfl rfl; (first | ((simp (disch := (first | omega | assumption)) only [↓appC, ↓updN, ↓updS, ↓app0, ↓hpS, ↓hpN]) <;> first | rfl | assumption) | ((simp (disch := (first | omega | (intro _ _; dsimp only; omega))) only [↓appC, ↓updN, ↓updS, ↓app0, ↓famAO]) <;> first | rfl | assumption) | assumption | rfl); rfl; rfl; rfl; rfl; rfl; (exact Nat.le_of_ble_eq_true rfl); rfl; rfl; rfl)
    refine raI rfl rfl rfl rfl rfl ?_
    refine rNil ?_
    refine qSeq ?_
    refine wSeq ?_
    refine wSeq ?_
    refine wRegion ?_
    (apply rlr (vs := [.int _ _, .int _ _, _, _]) rfl rfl; (first | ((simp (disch := (first | omega | assumption)) only [↓appC, ↓updN, ↓updS, ↓app0, ↓hpS, ↓hpN]) <;> first | rfl | assumption) | ((simp (disch := (first | omega | (intro _ _; dsimp only; omega))) only [↓appC, ↓updN, ↓updS, ↓app0, ↓famAO]) <;> first | rfl | assumption) | assumption | rfl); rfl; rfl; (exact Nat.le_of_ble_eq_true rfl); rfl; rfl; rfl; rfl)
    (apply rlr (vs := [.int _ _, .int _ _, _, _]) rfl rfl; (first | ((simp (disch := (first | omega | assumption)) only [↓appC, ↓updN, ↓updS, ↓app0, ↓hpS, ↓hpN]) <;> first | rfl | assumption) | ((simp (disch := (first | omega | (intro _ _; dsimp only; omega))) only [↓appC, ↓updN, ↓updS, ↓app0, ↓famAO]) <;> first | rfl | assumption) | assumption | rfl); rfl; rfl; (exact Nat.le_of_ble_eq_true rfl); rfl; rfl; rfl; rfl)
    apply rclS [] (s14 ⟨xt, xn, [], []⟩ true false false true false false (by simp) (fun i hi => absurd hi (Nat.not_lt_zero _)) hX3) rfl rfl rfl
    · exact (SnapL.cons _ _ _ _ (SnapC.agg (.cons _ _ _ _ (.int _ _) (.cons _ _ _ _ (.int _ _) (.cons _ _ _ _ .nslW (.cons _ _ _ _ .nslW .nil))))) (SnapL.cons _ _ _ _ (SnapC.agg (.cons _ _ _ _ (.int _ _) (.cons _ _ _ _ (.int _ _) (.cons _ _ _ _ (.sl _ _ _ (fun h => by cases h)) (.cons _ _ _ _ (.sl _ _ _ (fun h => by cases h)) .nil))))) SnapL.nil))
    · rfl
    · rfl
    · rfl
    refine rnot (c := true) rfl rfl rfl rfl rfl ?_
    refine rmB rfl rfl rfl rfl rfl ?_
    refine rmI rfl rfl rfl rfl rfl ?_
    refine rmI rfl rfl rfl rfl rfl ?_
    refine rne rfl rfl rfl rfl rfl rfl (fun h => absurd h ((fun hh => hh rfl))) ?_
    intro h8_7
    refine rpk (e := false) rfl rfl rfl rfl rfl rfl ?_
    refine rNil ?_
    refine qSeq ?_
    refine wF rfl ?_
    refine wSkip ?_
    refine qSeq ?_
    refine wSeq ?_
    refine wSeq ?_
    refine wDraw [0, 0, 2, 7, 15] rfl (by decide +kernel) ?_
    (apply dlr (vs := [.int _ _, .int _ _, _, _]) rfl rfl; (first | ((simp (disch := (first | omega | assumption)) only [↓appC, ↓updN, ↓updS, ↓app0, ↓hpS, ↓hpN]) <;> first | rfl | assumption) | ((simp (disch := (first | omega | (intro _ _; dsimp only; omega))) only [↓appC, ↓updN, ↓updS, ↓app0, ↓famAO]) <;> first | rfl | assumption) | assumption | rfl); rfl; rfl; (exact Nat.le_of_ble_eq_true rfl); rfl; rfl; rfl; rfl)
    (apply dlr (vs := [.int _ _, .int _ _, _, _]) rfl rfl; (first | ((simp (disch := (first | omega | assumption)) only [↓appC, ↓updN, ↓updS, ↓app0, ↓hpS, ↓hpN]) <;> first | rfl | assumption) | ((simp (disch := (first | omega | (intro _ _; dsimp only; omega))) only [↓appC, ↓updN, ↓updS, ↓app0, ↓famAO]) <;> first | rfl | assumption) | assumption | rfl); rfl; rfl; (exact Nat.le_of_ble_eq_true rfl); rfl; rfl; rfl; rfl)
    refine dcl (s11 t n1 n2 hL hW hS) rfl rfl rfl rfl rfl rfl ?_
    apply dclS ([1 + 5 + 4 * t.lk.length + 1 + 3, 1 + 5 + 4 * t.lk.length + 1 + 3 + 1 + 4 * t.lk.length] ++ (List.range t.lk.length).map (fun i => 1 + 5 + 4 * t.lk.length + 1 + 3 + 1 + 4 * i + 3)) (s14 t true true true true true true (by omega) (fun i hi => by have := hW i hi; omega) (by omega)) rfl rfl rfl
    · exact (SnapL.cons _ _ _ _ (snapTb (w := (fun i => 1 + 5 + 4 * t.lk.length + 1 + 3 + 1 + 4 * i + 3)) (List.mem_append_left _ List.mem_cons_self) (List.mem_append_left _ (List.mem_cons_of_mem _ List.mem_cons_self)) (fun i hi => List.mem_append_right _ (List.mem_map.2 ⟨i, List.mem_range.2 hi, rfl⟩)) (by (first | ((simp (disch := (first | omega | assumption)) only [↓appC, ↓updN, ↓updS, ↓app0, ↓hpS, ↓hpN]) <;> first | rfl | assumption) | ((simp (disch := (first | omega | (intro _ _; dsimp only; omega))) only [↓appC, ↓updN, ↓updS, ↓app0, ↓famAO]) <;> first | rfl | assumption) | assumption | rfl)) (fun i hi => by (try (simp (disch := (first | omega | (intro _ _; dsimp only; omega))) only [↓appC, ↓updN, ↓updS, ↓app0, ↓famAO])); exact famA (w := (fun i => 1 + 5 + 4 * t.lk.length + 1 + 3 + 1 + 4 * i + 3)) (fun a b _ _ e => by (try dsimp only at e); omega) hi) (by (first | ((simp (disch := (first | omega | assumption)) only [↓appC, ↓updN, ↓updS, ↓app0, ↓hpS, ↓hpN]) <;> first | rfl | assumption) | ((simp (disch := (first | omega | (intro _ _; dsimp only; omega))) only [↓appC, ↓updN, ↓updS, ↓app0, ↓famAO]) <;> first | rfl | assumption) | assumption | rfl)) rfl rfl) (SnapL.cons _ _ _ _ (SnapC.agg (.cons _ _ _ _ (.int _ _) (.cons _ _ _ _ (.int _ _) (.cons _ _ _ _ (.sl _ _ _ (fun h => by cases h)) (.cons _ _ _ _ (.sl _ _ _ (fun h => by cases h)) .nil))))) SnapL.nil))
    · rfl
    · rfl
    · rfl
    refine dnot (c := true) rfl rfl rfl rfl rfl ?_
    refine dNilR 5 [0, 1, 0, 1, 1] [] rfl rfl (by decide +kernel) trivial ?_
    refine qSeq ?_
    refine wF rfl ?_
    refine wSkip ?_
    refine qSeq ?_
    refine wSeq ?_
    refine wRegion ?_
    refine raI rfl rfl rfl rfl rfl ?_
    refine rNil ?_
    refine qSeq ?_
    refine wSeq ?_
    refine wRegion ?_
    (apply rlr (vs := [.int _ _, .int _ _, _, _]) rfl rfl; (first | ((simp (disch := (first | omega | assumption)) only [↓appC, ↓updN, ↓updS, ↓app0, ↓hpS, ↓hpN]) <;> first | rfl | assumption) | ((simp (disch := (first | omega | (intro _ _; dsimp only; omega))) only [↓appC, ↓updN, ↓updS, ↓app0, ↓famAO]) <;> first | rfl | assumption) | assumption | rfl); rfl; rfl; (exact Nat.le_of_ble_eq_true rfl); rfl; rfl; rfl; rfl)
    refine rmI rfl rfl rfl rfl rfl ?_
    refine rop (o15 t (fun i => 1 + 5 + 4 * t.lk.length + 1 + 3 + 1 + 4 * i + 3) 1 (by omega) (by omega) (fun i hi => by have := hW i hi; omega) (by omega) (fun a b _ _ e => by (try dsimp only at e); omega) (lb := 1 + 5 + 4 * t.lk.length + 1 + 3) (sb := 1 + 5 + 4 * t.lk.length + 1 + 3 + 1 + 4 * t.lk.length) (by omega) (by omega) (by omega) (fun i hi => by (try dsimp only); omega) (fun i hi => by (try dsimp only); omega) (fun i hi => by (try dsimp only); omega) (by (first | ((simp (disch := (first | omega | assumption)) only [↓appC, ↓updN, ↓updS, ↓app0, ↓hpS, ↓hpN]) <;> first | rfl | assumption) | ((simp (disch := (first | omega | (intro _ _; dsimp only; omega))) only [↓appC, ↓updN, ↓updS, ↓app0, ↓famAO]) <;> first | rfl | assumption) | assumption | rfl)) (fun i hi => by (try (simp (disch := (first | omega | (intro _ _; dsimp only; omega))) only [↓appC, ↓updN, ↓updS, ↓app0, ↓famAO])); exact famA (w := (fun i => 1 + 5 + 4 * t.lk.length + 1 + 3 + 1 + 4 * i + 3)) (fun a b _ _ e => by (try dsimp only at e); omega) hi) (by (first | ((simp (disch := (first | omega | assumption)) only [↓appC, ↓updN, ↓updS, ↓app0, ↓hpS, ↓hpN]) <;> first | rfl | assumption) | ((simp (disch := (first | omega | (intro _ _; dsimp only; omega))) only [↓appC, ↓updN, ↓updS, ↓app0, ↓famAO]) <;> first | rfl | assumption) | assumption | rfl))) rfl rfl rfl rfl rfl rfl ?_
    refine raI rfl rfl rfl rfl rfl ?_
    refine rNil ?_
    refine qSeq ?_
    refine wSeq ?_
    refine wSeq ?_
    refine wRegion ?_
    refine rmI rfl rfl rfl rfl rfl ?_
    refine rlt rfl rfl rfl rfl rfl rfl (fun h => absurd h (by have := kL_bd (k := 1) (L := t.lk) (fun i hi => by have := hW i hi; omega); omega)) ?_
    intro h14_1
    refine rmB rfl rfl rfl rfl rfl ?_
    (apply rlr (vs := [.int _ _, .int _ _, _, _]) rfl rfl; (first | ((simp (disch := (first | omega | assumption)) only [↓appC, ↓updN, ↓updS, ↓app0, ↓hpS, ↓hpN]) <;> first | rfl | assumption) | ((simp (disch := (first | omega | (intro _ _; dsimp only; omega))) only [↓appC, ↓updN, ↓updS, ↓app0, ↓famAO]) <;> first | rfl | assumption) | assumption | rfl); rfl; rfl; (exact Nat.le_of_ble_eq_true rfl); rfl; rfl; rfl; rfl)
    (apply rlr (vs := [.int _ _, .int _ _, _, _]) rfl rfl; (first | ((simp (disch := (first | omega | assumption)) only [↓appC, ↓updN, ↓updS, ↓app0, ↓hpS, ↓hpN]) <;> first | rfl | assumption) | ((simp (disch := (first | omega | (intro _ _; dsimp only; omega))) only [↓appC, ↓updN, ↓updS, ↓app0, ↓famAO]) <;> first | rfl | assumption) | assumption | rfl); rfl; rfl; (exact Nat.le_of_ble_eq_true rfl); rfl; rfl; rfl; rfl)
    apply rclS [] (s14 ⟨xt, xn, [], []⟩ true false false true false false (by simp) (fun i hi => absurd hi (Nat.not_lt_zero _)) hX3) rfl rfl rfl
    · exact (SnapL.cons _ _ _ _ (SnapC.agg (.cons _ _ _ _ (.int _ _) (.cons _ _ _ _ (.int _ _) (.cons _ _ _ _ .nslW (.cons _ _ _ _ .nslW .nil))))) (SnapL.cons _ _ _ _ (SnapC.agg (.cons _ _ _ _ (.int _ _) (.cons _ _ _ _ (.int _ _) (.cons _ _ _ _ (.sl _ _ _ (fun h => by cases h)) (.cons _ _ _ _ (.sl _ _ _ (fun h => by cases h)) .nil))))) SnapL.nil))
    · rfl
    · rfl
    · rfl
    refine rnot (c := true) rfl rfl rfl rfl rfl ?_
    refine rpk (e := false) rfl rfl rfl rfl rfl rfl ?_
    refine rmB rfl rfl rfl rfl rfl ?_
    refine rmI rfl rfl rfl rfl rfl ?_
    refine rmI rfl rfl rfl rfl rfl ?_
    refine rne rfl rfl rfl rfl rfl rfl (fun h => absurd h ((fun hh => hh rfl))) ?_
    intro h14_11
    refine rpk (e := false) rfl rfl rfl rfl rfl rfl ?_
    refine rNil ?_
    refine qSeq ?_
    refine wF rfl ?_
    refine wSkip ?_
    refine qSeq ?_
    refine wSeq ?_
    refine wRegion ?_
    refine raI rfl rfl rfl rfl rfl ?_
    refine rNil ?_
    refine qSeq ?_
    refine wSeq ?_
    refine wRegion ?_
    (apply rlr (vs := [.int _ _, .int _ _, _, _]) rfl rfl; (first | ((simp (disch := (first | omega | assumption)) only [↓appC, ↓updN, ↓updS, ↓app0, ↓hpS, ↓hpN]) <;> first | rfl | assumption) | ((simp (disch := (first | omega | (intro _ _; dsimp only; omega))) only [↓appC, ↓updN, ↓updS, ↓app0, ↓famAO]) <;> first | rfl | assumption) | assumption | rfl); rfl; rfl; (exact Nat.le_of_ble_eq_true rfl); rfl; rfl; rfl; rfl)
    refine rmI rfl rfl rfl rfl rfl ?_
    refine rop (o15e xt xn 1) rfl rfl rfl rfl rfl rfl ?_
    refine raI rfl rfl rfl rfl rfl ?_
    refine rNil ?_
    refine qSeq ?_
    refine wSeq ?_
    refine wRegion ?_
    refine raI rfl rfl rfl rfl rfl ?_
    refine rNil ?_
    refine qSeq ?_
    refine wSeq ?_
    refine wRegion ?_
    (apply rlr (vs := [.int _ _, .int _ _, _, _]) rfl rfl; (first | ((simp (disch := (first | omega | assumption)) only [↓appC, ↓updN, ↓updS, ↓app0, ↓hpS, ↓hpN]) <;> first | rfl | assumption) | ((simp (disch := (first | omega | (intro _ _; dsimp only; omega))) only [↓appC, ↓updN, ↓updS, ↓app0, ↓famAO]) <;> first | rfl | assumption) | assumption | rfl); rfl; rfl; (exact Nat.le_of_ble_eq_true rfl); rfl; rfl; rfl; rfl)
    refine rmI rfl rfl rfl rfl rfl ?_
    apply rclS [] (s20 xt xn true false false [] 0 1 (by omega) (by simp) (fun i hi => absurd hi (Nat.not_lt_zero _)) (by first | exact hX3 | simp)) rfl rfl rfl
    · exact (SnapL.cons _ _ _ _ (SnapC.agg (.cons _ _ _ _ (.int _ _) (.cons _ _ _ _ (.int _ _) (.cons _ _ _ _ .nslW (.cons _ _ _ _ .nslW .nil))))) (SnapL.cons _ _ _ _ (.one _ _ (.int _ _)) SnapL.nil))
    · rfl
    · rfl
    · rfl
    refine raI rfl rfl rfl rfl rfl ?_
    refine rNil ?_
    refine qSeq ?_
    refine wSeq ?_
    refine wSeq ?_
    refine wRegion ?_
    refine rmI rfl rfl rfl rfl rfl ?_
    refine rlt rfl rfl rfl rfl rfl rfl (fun h => absurd h (by (show ¬ ((1 : Int) + 6 * _ < 0)); omega)) ?_
    intro h20_1
    refine rNil ?_
    refine qSeq ?_
    refine wF rfl ?_
    refine wSkip ?_
    refine qSeq ?_
    refine wSeq ?_
    refine wSeq ?_
    refine wRegion ?_
    refine rmI rfl rfl rfl rfl rfl ?_
    refine rmI rfl rfl rfl rfl rfl ?_
    refine rne rfl rfl rfl rfl rfl rfl (fun h => absurd h ((fun hh => hh (by first | rfl | (simp; done) | (simp; omega) | omega)))) ?_
    intro h22_2
    refine rNil ?_
    refine qSeq ?_
    refine wF rfl ?_
    refine wSkip ?_
    refine qSeq ?_
    refine wSeq ?_
    refine wRegion ?_
    (apply rlr (vs := [.int _ _, .int _ _, _, _]) rfl rfl; (first | ((simp (disch := (first | omega | assumption)) only [↓appC, ↓updN, ↓updS, ↓app0, ↓hpS, ↓hpN]) <;> first | rfl | assumption) | ((simp (disch := (first | omega | (intro _ _; dsimp only; omega))) only [↓appC, ↓updN, ↓updS, ↓app0, ↓famAO]) <;> first | rfl | assumption) | assumption | rfl); rfl; rfl; (exact Nat.le_of_ble_eq_true rfl); rfl; rfl; rfl; rfl)
    refine rop (o11 t false n1 n2 hL hW hS) rfl rfl rfl rfl rfl rfl ?_
    refine rmI rfl rfl rfl rfl rfl ?_
    (apply rfs ([1 + 5 + 4 * t.lk.length + 1 + 5 + 4 * t.lk.length + 1 + 2 + 1 + 1 + 1 + 3, 1 + 5 + 4 * t.lk.length + 1 + 5 + 4 * t.lk.length + 1 + 2 + 1 + 1 + 1 + 3 + 1 + 4 * t.lk.length] ++ (List.range t.lk.length).map (fun i => 1 + 5 + 4 * t.lk.length + 1 + 5 + 4 * t.lk.length + 1 + 2 + 1 + 1 + 1 + 3 + 1 + 4 * i + 3)) (hI _) rfl rfl rfl; (exact (SnapL.cons _ _ _ _ (snapTb (w := (fun i => 1 + 5 + 4 * t.lk.length + 1 + 5 + 4 * t.lk.length + 1 + 2 + 1 + 1 + 1 + 3 + 1 + 4 * i + 3)) (List.mem_append_left _ List.mem_cons_self) (List.mem_append_left _ (List.mem_cons_of_mem _ List.mem_cons_self)) (fun i hi => List.mem_append_right _ (List.mem_map.2 ⟨i, List.mem_range.2 hi, rfl⟩)) (by (first | ((simp (disch := (first | omega | assumption)) only [↓appC, ↓updN, ↓updS, ↓app0, ↓hpS, ↓hpN]) <;> first | rfl | assumption) | ((simp (disch := (first | omega | (intro _ _; dsimp only; omega))) only [↓appC, ↓updN, ↓updS, ↓app0, ↓famAO]) <;> first | rfl | assumption) | assumption | rfl)) (fun i hi => by (try (simp (disch := (first | omega | (intro _ _; dsimp only; omega))) only [↓appC, ↓updN, ↓updS, ↓app0, ↓famAO])); exact famA (w := (fun i => 1 + 5 + 4 * t.lk.length + 1 + 5 + 4 * t.lk.length + 1 + 2 + 1 + 1 + 1 + 3 + 1 + 4 * i + 3)) (fun a b _ _ e => by (try dsimp only at e); omega) hi) (by (first | ((simp (disch := (first | omega | assumption)) only [↓appC, ↓updN, ↓updS, ↓app0, ↓hpS, ↓hpN]) <;> first | rfl | assumption) | ((simp (disch := (first | omega | (intro _ _; dsimp only; omega))) only [↓appC, ↓updN, ↓updS, ↓app0, ↓famAO]) <;> first | rfl | assumption) | assumption | rfl)) rfl rfl) (SnapL.cons _ _ _ _ (.one _ _ (.int _ _)) SnapL.nil))); rfl; (exact fun id b h => absurd h (noneW id b)); exact List.cons_ne_nil _ _; rfl; rfl; rfl)
    refine rmT rfl rfl rfl rfl rfl ?_
    refine rex rfl rfl rfl rfl rfl rfl ?_
    refine rex rfl rfl rfl rfl rfl rfl ?_
    refine ral rfl rfl rfl rfl rfl rfl ?_
    (apply rst (u := .agg [.int _ _, .int _ _, _, _]) rfl rfl rfl; (first | ((simp (disch := (first | omega | assumption)) only [↓appC, ↓updN, ↓updS, ↓app0, ↓hpS, ↓hpN]) <;> first | rfl | assumption) | ((simp (disch := (first | omega | (intro _ _; dsimp only; omega))) only [↓appC, ↓updN, ↓updS, ↓app0, ↓famAO]) <;> first | rfl | assumption) | assumption | rfl); rfl; rfl; rfl; rfl; rfl; (exact Nat.le_of_ble_eq_true rfl); rfl; rfl; rfl)
    refine raI rfl rfl rfl rfl rfl ?_
    refine rNil ?_
    refine qSeq ?_
    refine wSeq ?_
    refine wSeq ?_
    refine wRegion ?_
    (apply rlr (vs := [.int _ _, .int _ _, _, _]) rfl rfl; (first | ((simp (disch := (first | omega | assumption)) only [↓appC, ↓updN, ↓updS, ↓app0, ↓hpS, ↓hpN]) <;> first | rfl | assumption) | ((simp (disch := (first | omega | (intro _ _; dsimp only; omega))) only [↓appC, ↓updN, ↓updS, ↓app0, ↓famAO]) <;> first | rfl | assumption) | assumption | rfl); rfl; rfl; (exact Nat.le_of_ble_eq_true rfl); rfl; rfl; rfl; rfl)
    (apply rlr (vs := [.int _ _, .int _ _, _, _]) rfl rfl; (first | ((simp (disch := (first | omega | assumption)) only [↓appC, ↓updN, ↓updS, ↓app0, ↓hpS, ↓hpN]) <;> first | rfl | assumption) | ((simp (disch := (first | omega | (intro _ _; dsimp only; omega))) only [↓appC, ↓updN, ↓updS, ↓app0, ↓famAO]) <;> first | rfl | assumption) | assumption | rfl); rfl; rfl; (exact Nat.le_of_ble_eq_true rfl); rfl; rfl; rfl; rfl)
    apply rclS [] (s14 ⟨xt, xn, [], []⟩ true false false true false false (by simp) (fun i hi => absurd hi (Nat.not_lt_zero _)) hX3) rfl rfl rfl
    · exact (SnapL.cons _ _ _ _ (SnapC.agg (.cons _ _ _ _ (.int _ _) (.cons _ _ _ _ (.int _ _) (.cons _ _ _ _ .nslW (.cons _ _ _ _ .nslW .nil))))) (SnapL.cons _ _ _ _ (SnapC.agg (.cons _ _ _ _ (.int _ _) (.cons _ _ _ _ (.int _ _) (.cons _ _ _ _ (.sl _ _ _ (fun h => by cases h)) (.cons _ _ _ _ (.sl _ _ _ (fun h => by cases h)) .nil))))) SnapL.nil))
    · rfl
    · rfl
    · rfl
    refine rnot (c := true) rfl rfl rfl rfl rfl ?_
    refine rmB rfl rfl rfl rfl rfl ?_
    refine rmI rfl rfl rfl rfl rfl ?_
    refine rmI rfl rfl rfl rfl rfl ?_
    refine rne rfl rfl rfl rfl rfl rfl (fun h => absurd h ((fun hh => hh rfl))) ?_
    intro h25_7
    refine rpk (e := false) rfl rfl rfl rfl rfl rfl ?_
    refine rNil ?_
    refine qSeq ?_
    refine wF rfl ?_
    refine wSkip ?_
    refine qSeq ?_
    refine wSeq ?_
    refine wRegion ?_
    refine raI rfl rfl rfl rfl rfl ?_
    refine rNil ?_
    refine qSeq ?_
    refine wSeq ?_
    refine wRegion ?_
    (apply rlr (vs := [.int _ _, .int _ _, _, _]) rfl rfl; (first | ((simp (disch := (first | omega | assumption)) only [↓appC, ↓updN, ↓updS, ↓app0, ↓hpS, ↓hpN]) <;> first | rfl | assumption) | ((simp (disch := (first | omega | (intro _ _; dsimp only; omega))) only [↓appC, ↓updN, ↓updS, ↓app0, ↓famAO]) <;> first | rfl | assumption) | assumption | rfl); rfl; rfl; (exact Nat.le_of_ble_eq_true rfl); rfl; rfl; rfl; rfl)
    refine rmI rfl rfl rfl rfl rfl ?_
    apply rclS [] (s20 xt xn true false false [] 0 1 (by omega) (by simp) (fun i hi => absurd hi (Nat.not_lt_zero _)) (by first | exact hX3 | simp)) rfl rfl rfl
    · exact (SnapL.cons _ _ _ _ (SnapC.agg (.cons _ _ _ _ (.int _ _) (.cons _ _ _ _ (.int _ _) (.cons _ _ _ _ .nslW (.cons _ _ _ _ .nslW .nil))))) (SnapL.cons _ _ _ _ (.one _ _ (.int _ _)) SnapL.nil))
    · rfl
    · rfl
    · rfl
    refine raI rfl rfl rfl rfl rfl ?_
    refine rNil ?_
    refine qSeq ?_
    refine wSeq ?_
    refine wSeq ?_
    refine wRegion ?_
    refine rmI rfl rfl rfl rfl rfl ?_
    refine rlt rfl rfl rfl rfl rfl rfl (fun h => absurd h (by (show ¬ ((1 : Int) + 6 * _ < 0)); omega)) ?_
    intro h29_1
    refine rNil ?_
    refine qSeq ?_
    refine wF rfl ?_
    refine wSkip ?_
    refine qSeq ?_
    refine wSeq ?_
    refine wSeq ?_
    refine wRegion ?_
    refine rmI rfl rfl rfl rfl rfl ?_
    refine rmI rfl rfl rfl rfl rfl ?_
    refine rne rfl rfl rfl rfl rfl rfl (fun h => absurd h ((fun hh => hh (by first | rfl | (simp; done) | (simp; omega) | omega)))) ?_
    intro h31_2
    refine rNil ?_
    refine qSeq ?_
    refine wF rfl ?_
    refine wSkip ?_
    refine qSeq ?_
    refine wSeq ?_
    refine wRegion ?_
    refine raB rfl rfl rfl rfl rfl ?_
    refine rNil ?_
    refine qSeq ?_
    refine wRet ?_
    exact fin rfl rfl
theorem expZ (t : Tb) (now : Int) (n1 n2 : Bool) (xt xn code : Int) (L : List Sn) (hX3 : L.length ≤ 1048577) (hL : t.lk.length ≤ 1048576) (hW : ∀ i, i < t.lk.length → (t.lk.getD i Lk0).ws.length ≤ 1048576) (hS : t.sn.length ≤ 1048576)
    (hm : t.lk.length ≤ 9223372036854775807) (hz : ∀ i, i < t.lk.length → (t.lk.getD i Lk0).nm.size ≤ 9223372036854775807 ∧ (t.lk.getD i Lk0).ws.length ≤ 9223372036854775807) (ha : t.sn.length ≤ 9223372036854775807) (hS18 : Pure En 18 [.agg (t.T true true true), .one (.int .i64 now)] [.agg ((Tb.mk xt xn [] L).T true false false), .one (.int .i64 code)]) (hI : ∀ n, V.Open En 19 ([A.agg (t.T true true true), A.one (.int .i64 now)].map (A.toV false)) (fun _ => none) n (.tup [.agg [.int .i64 xt, .int .i64 xn, .nsl, .view (n + 5) 0 L.length], .int .i64 code]) [(n + 5, some ⟨L.map Sn.V, 6, 115⟩)] (n + 8)) :
    Pure En 4 [.agg (t.T false n1 n2), .one (.int .i64 now)] [.one (.bool true)] := by
  refine Pure.of_wp Try.func4 rfl (Nat.le_of_ble_eq_true rfl) ?_
  refine wSeq ?_
  refine wRegion ?_
  refine rbx (u := .agg [.int _ _, .int _ _, _, _]) rfl rfl rfl rfl rfl rfl rfl ?_
  refine raB rfl rfl rfl rfl rfl ?_
  refine rNil ?_
  refine qSeq ?_
  refine wSeq ?_
  refine wRegion ?_
  refine raI rfl rfl rfl rfl rfl ?_
  refine rNil ?_
  refine qSeq ?_
  refine wSeq ?_
  refine wRegion ?_
  (apply rlr (vs := [.int _ _, .int _ _, _, _]) rfl rfl; (first | ((simp (disch := (first | omega | assumption)) only [↓appC, ↓updN, ↓updS, ↓app0, ↓hpS, ↓hpN]) <;> first | rfl | assumption) | ((simp (disch := (first | omega | (intro _ _; dsimp only; omega))) only [↓appC, ↓updN, ↓updS, ↓app0, ↓famAO]) <;> first | rfl | assumption) | assumption | rfl); rfl; rfl; (exact Nat.le_of_ble_eq_true rfl); rfl; rfl; rfl; rfl)
  refine rmI rfl rfl rfl rfl rfl ?_
  refine rclX (s9 n1 n2 false t 1048576 (by omega) hm hz ha) rfl rfl rfl rfl rfl rfl ?_
  rintro x h2_2
  try dsimp only at h2_2
  refine raI rfl rfl rfl rfl rfl ?_
  refine rNil ?_
  refine qSeq ?_
  refine wSeq ?_
  refine wSeq ?_
  refine wRegion ?_
  refine rmI rfl rfl rfl rfl rfl ?_
  refine rlt rfl rfl rfl rfl rfl rfl ?_ ?_ <;> intro h3_1
  · refine rNil ?_
    refine qSeq ?_
    refine wT rfl ?_
    refine wSeq ?_
    refine wRegion ?_
    refine raB rfl rfl rfl rfl rfl ?_
    refine rNil ?_
    refine qSeq ?_
    refine wRet ?_
    refine qSeqR ?_
    exact fin rfl rfl
  · refine rNil ?_
    refine qSeq ?_
    refine wF rfl ?_
    refine wSkip ?_
    refine qSeq ?_
    refine wSeq ?_
    refine wRegion ?_
    (apply rlr (vs := [.int _ _, .int _ _, _, _]) rfl rfl; (first | ((simp (disch := (first | omega | assumption)) only [↓appC, ↓updN, ↓updS, ↓app0, ↓hpS, ↓hpN]) <;> first | rfl | assumption) | ((simp (disch := (first | omega | (intro _ _; dsimp only; omega))) only [↓appC, ↓updN, ↓updS, ↓app0, ↓famAO]) <;> first | rfl | assumption) | assumption | rfl); rfl; rfl; (exact Nat.le_of_ble_eq_true rfl); rfl; rfl; rfl; rfl)
    refine rop (o11 t false n1 n2 hL hW hS) rfl rfl rfl rfl rfl rfl ?_
    refine rmI rfl rfl rfl rfl rfl ?_
    apply rclS ([1 + 3, 1 + 3 + 1 + 4 * t.lk.length] ++ (List.range t.lk.length).map (fun i => 1 + 3 + 1 + 4 * i + 3)) hS18 rfl rfl rfl
    · exact (SnapL.cons _ _ _ _ (snapTb (w := (fun i => 1 + 3 + 1 + 4 * i + 3)) (List.mem_append_left _ List.mem_cons_self) (List.mem_append_left _ (List.mem_cons_of_mem _ List.mem_cons_self)) (fun i hi => List.mem_append_right _ (List.mem_map.2 ⟨i, List.mem_range.2 hi, rfl⟩)) (by (first | ((simp (disch := (first | omega | assumption)) only [↓appC, ↓updN, ↓updS, ↓app0, ↓hpS, ↓hpN]) <;> first | rfl | assumption) | ((simp (disch := (first | omega | (intro _ _; dsimp only; omega))) only [↓appC, ↓updN, ↓updS, ↓app0, ↓famAO]) <;> first | rfl | assumption) | assumption | rfl)) (fun i hi => by (try (simp (disch := (first | omega | (intro _ _; dsimp only; omega))) only [↓appC, ↓updN, ↓updS, ↓app0, ↓famAO])); exact famA (w := (fun i => 1 + 3 + 1 + 4 * i + 3)) (fun a b _ _ e => by (try dsimp only at e); omega) hi) (by (first | ((simp (disch := (first | omega | assumption)) only [↓appC, ↓updN, ↓updS, ↓app0, ↓hpS, ↓hpN]) <;> first | rfl | assumption) | ((simp (disch := (first | omega | (intro _ _; dsimp only; omega))) only [↓appC, ↓updN, ↓updS, ↓app0, ↓famAO]) <;> first | rfl | assumption) | assumption | rfl)) rfl rfl) (SnapL.cons _ _ _ _ (.one _ _ (.int _ _)) SnapL.nil))
    · rfl
    · rfl
    · rfl
    refine rmT rfl rfl rfl rfl rfl ?_
    refine rex rfl rfl rfl rfl rfl rfl ?_
    refine rex rfl rfl rfl rfl rfl rfl ?_
    refine ral rfl rfl rfl rfl rfl rfl ?_
    (apply rst (u := .agg [.int _ _, .int _ _, _, _]) rfl rfl rfl; (first | ((simp (disch := (first | omega | assumption)) only [↓appC, ↓updN, ↓updS, ↓app0, ↓hpS, ↓hpN]) <;> first | rfl | assumption) | ((simp (disch := (first | omega | (intro _ _; dsimp only; omega))) only [↓appC, ↓updN, ↓updS, ↓app0, ↓famAO]) <;> first | rfl | assumption) | assumption | rfl); rfl; rfl; rfl; rfl; rfl; (exact Nat.le_of_ble_eq_true rfl); rfl; rfl; rfl)
    refine raI rfl rfl rfl rfl rfl ?_
    refine rNil ?_
    refine qSeq ?_
    refine wSeq ?_
    refine wRegion ?_
    (apply rlr (vs := [.int _ _, .int _ _, _, _]) rfl rfl; (first | ((simp (disch := (first | omega | assumption)) only [↓appC, ↓updN, ↓updS, ↓app0, ↓hpS, ↓hpN]) <;> first | rfl | assumption) | ((simp (disch := (first | omega | (intro _ _; dsimp only; omega))) only [↓appC, ↓updN, ↓updS, ↓app0, ↓famAO]) <;> first | rfl | assumption) | assumption | rfl); rfl; rfl; (exact Nat.le_of_ble_eq_true rfl); rfl; rfl; rfl; rfl)
    refine rop (o11 t false n1 n2 hL hW hS) rfl rfl rfl rfl rfl rfl ?_
    refine ral rfl rfl rfl rfl rfl rfl ?_
    (apply rst (u := .agg [.int _ _, .int _ _, _, _]) rfl rfl rfl; (first | ((simp (disch := (first | omega | assumption)) only [↓appC, ↓updN, ↓updS, ↓app0, ↓hpS, ↓hpN]) <;> first | rfl | assumption) | ((simp (disch := (first | omega | (intro _ _; dsimp only; omega))) only [↓appC, ↓updN, ↓updS, ↓app0, ↓famAO]) <;> first | rfl | assumption) | assumption | rfl); rfl; rfl; rfl; rfl; rfl; (exact Nat.le_of_ble_eq_true rfl); rfl; rfl; rfl)
    refine rNil ?_
    refine qSeq ?_
    refine wSeq ?_
    refine wRegion ?_
    (apply rlr (vs := [.int _ _, .int _ _, _, _]) rfl rfl; (first | ((simp (disch := (first | omega | assumption)) only [↓appC, ↓updN, ↓updS, ↓app0, ↓hpS, ↓hpN]) <;> first | rfl | assumption) | ((simp (disch := (first | omega | (intro _ _; dsimp only; omega))) only [↓appC, ↓updN, ↓updS, ↓app0, ↓famAO]) <;> first | rfl | assumption) | assumption | rfl); rfl; rfl; (exact Nat.le_of_ble_eq_true rfl); rfl; rfl; rfl; rfl)
    refine rmI rfl rfl rfl rfl rfl ?_
    (apply rfs ([1 + 5 + 4 * t.lk.length + 1 + 3, 1 + 5 + 4 * t.lk.length + 1 + 3 + 1 + 4 * t.lk.length] ++ (List.range t.lk.length).map (fun i => 1 + 5 + 4 * t.lk.length + 1 + 3 + 1 + 4 * i + 3)) (hI _) rfl rfl rfl; (exact (SnapL.cons _ _ _ _ (snapTb (w := (fun i => 1 + 5 + 4 * t.lk.length + 1 + 3 + 1 + 4 * i + 3)) (List.mem_append_left _ List.mem_cons_self) (List.mem_append_left _ (List.mem_cons_of_mem _ List.mem_cons_self)) (fun i hi => List.mem_append_right _ (List.mem_map.2 ⟨i, List.mem_range.2 hi, rfl⟩)) (by (first | ((simp (disch := (first | omega | assumption)) only [↓appC, ↓updN, ↓updS, ↓app0, ↓hpS, ↓hpN]) <;> first | rfl | assumption) | ((simp (disch := (first | omega | (intro _ _; dsimp only; omega))) only [↓appC, ↓updN, ↓updS, ↓app0, ↓famAO]) <;> first | rfl | assumption) | assumption | rfl)) (fun i hi => by (try (simp (disch := (first | omega | (intro _ _; dsimp only; omega))) only [↓appC, ↓updN, ↓updS, ↓app0, ↓famAO])); exact famA (w := (fun i => 1 + 5 + 4 * t.lk.length + 1 + 3 + 1 + 4 * i + 3)) (fun a b _ _ e => by (try dsimp only at e); omega) hi) (by (first | ((simp (disch := (first | omega | assumption)) only [↓appC, ↓updN, ↓updS, ↓app0, ↓hpS, ↓hpN]) <;> first | rfl | assumption) | ((simp (disch := (first | omega | (intro _ _; dsimp only; omega))) only [↓appC, ↓updN, ↓updS, ↓app0, ↓famAO]) <;> first | rfl | assumption) | assumption | rfl)) rfl rfl) (SnapL.cons _ _ _ _ (.one _ _ (.int _ _)) SnapL.nil))); rfl; (exact flatSn L); exact List.cons_ne_nil _ _; rfl; rfl; rfl)
    refine rmT rfl rfl rfl rfl rfl ?_
    refine rex rfl rfl rfl rfl rfl rfl ?_
    refine rex rfl rfl rfl rfl rfl rfl ?_
    refine ral rfl rfl rfl rfl rfl rfl ?_
    (apply rst (u := .agg [.int _ _, .int _ _, _, _]) rfl rfl rfl; (first | ((simp (disch := (first | omega | assumption)) only [↓appC, ↓updN, ↓updS, ↓app0, ↓hpS, ↓hpN]) <;> first | rfl | assumption) | ((simp (disch := (first | omega | (intro _ _; dsimp only; omega))) only [↓appC, ↓updN, ↓updS, ↓app0, ↓famAO]) <;> first | rfl | assumption) | assumption | rfl); rfl; rfl; rfl; rfl; rfl; (exact Nat.le_of_ble_eq_true rfl); rfl; rfl; rfl)
    refine raI rfl rfl rfl rfl rfl ?_
    refine rNil ?_
    refine qSeq ?_
    refine wSeq ?_
    refine wSeq ?_
    refine wRegion ?_
    (apply rlr (vs := [.int _ _, .int _ _, _, _]) rfl rfl; (first | ((simp (disch := (first | omega | assumption)) only [↓appC, ↓updN, ↓updS, ↓app0, ↓hpS, ↓hpN]) <;> first | rfl | assumption) | ((simp (disch := (first | omega | (intro _ _; dsimp only; omega))) only [↓appC, ↓updN, ↓updS, ↓app0, ↓famAO]) <;> first | rfl | assumption) | assumption | rfl); rfl; rfl; (exact Nat.le_of_ble_eq_true rfl); rfl; rfl; rfl; rfl)
    (apply rlr (vs := [.int _ _, .int _ _, _, _]) rfl rfl; (first | ((simp (disch := (first | omega | assumption)) only [↓appC, ↓updN, ↓updS, ↓app0, ↓hpS, ↓hpN]) <;> first | rfl | assumption) | ((simp (disch := (first | omega | (intro _ _; dsimp only; omega))) only [↓appC, ↓updN, ↓updS, ↓app0, ↓famAO]) <;> first | rfl | assumption) | assumption | rfl); rfl; rfl; (exact Nat.le_of_ble_eq_true rfl); rfl; rfl; rfl; rfl)
    apply rclS [1 + 5 + 4 * t.lk.length + 1 + 5 + 4 * t.lk.length + 1 + 5] (s14 ⟨xt, xn, [], L⟩ true false true true false false (by simp) (fun i hi => absurd hi (Nat.not_lt_zero _)) hX3) rfl rfl rfl
    · exact (SnapL.cons _ _ _ _ (SnapC.agg (.cons _ _ _ _ (.int _ _) (.cons _ _ _ _ (.int _ _) (.cons _ _ _ _ .nslW (.cons _ _ _ _ (snapSn (L := L) (by simp) (by (first | ((simp (disch := (first | omega | assumption)) only [↓appC, ↓updN, ↓updS, ↓app0, ↓hpS, ↓hpN]) <;> first | rfl | assumption) | ((simp (disch := (first | omega | (intro _ _; dsimp only; omega))) only [↓appC, ↓updN, ↓updS, ↓app0, ↓famAO]) <;> first | rfl | assumption) | assumption | rfl)) rfl) .nil))))) (SnapL.cons _ _ _ _ (SnapC.agg (.cons _ _ _ _ (.int _ _) (.cons _ _ _ _ (.int _ _) (.cons _ _ _ _ (.sl _ _ _ (fun h => by cases h)) (.cons _ _ _ _ (.sl _ _ _ (fun h => by cases h)) .nil))))) SnapL.nil))
    · rfl
    · rfl
    · rfl
    refine rnot (c := true) rfl rfl rfl rfl rfl ?_
    refine rmB rfl rfl rfl rfl rfl ?_
    refine rmI rfl rfl rfl rfl rfl ?_
    refine rmI rfl rfl rfl rfl rfl ?_
    refine rne rfl rfl rfl rfl rfl rfl (fun h => absurd h ((fun hh => hh rfl))) ?_
    intro h8_7
    refine rpk (e := false) rfl rfl rfl rfl rfl rfl ?_
    refine rNil ?_
    refine qSeq ?_
    refine wF rfl ?_
    refine wSkip ?_
    refine qSeq ?_
    refine wSeq ?_
    refine wSeq ?_
    refine wDraw [0, 0, 2, 7, 15] rfl (by decide +kernel) ?_
    (apply dlr (vs := [.int _ _, .int _ _, _, _]) rfl rfl; (first | ((simp (disch := (first | omega | assumption)) only [↓appC, ↓updN, ↓updS, ↓app0, ↓hpS, ↓hpN]) <;> first | rfl | assumption) | ((simp (disch := (first | omega | (intro _ _; dsimp only; omega))) only [↓appC, ↓updN, ↓updS, ↓app0, ↓famAO]) <;> first | rfl | assumption) | assumption | rfl); rfl; rfl; (exact Nat.le_of_ble_eq_true rfl); rfl; rfl; rfl; rfl)
    (apply dlr (vs := [.int _ _, .int _ _, _, _]) rfl rfl; (first | ((simp (disch := (first | omega | assumption)) only [↓appC, ↓updN, ↓updS, ↓app0, ↓hpS, ↓hpN]) <;> first | rfl | assumption) | ((simp (disch := (first | omega | (intro _ _; dsimp only; omega))) only [↓appC, ↓updN, ↓updS, ↓app0, ↓famAO]) <;> first | rfl | assumption) | assumption | rfl); rfl; rfl; (exact Nat.le_of_ble_eq_true rfl); rfl; rfl; rfl; rfl)
    refine dcl (s11 t n1 n2 hL hW hS) rfl rfl rfl rfl rfl rfl ?_
    apply dclS ([1 + 5 + 4 * t.lk.length + 1 + 3, 1 + 5 + 4 * t.lk.length + 1 + 3 + 1 + 4 * t.lk.length] ++ (List.range t.lk.length).map (fun i => 1 + 5 + 4 * t.lk.length + 1 + 3 + 1 + 4 * i + 3)) (s14 t true true true true true true (by omega) (fun i hi => by have := hW i hi; omega) (by omega)) rfl rfl rfl
    · exact (SnapL.cons _ _ _ _ (snapTb (w := (fun i => 1 + 5 + 4 * t.lk.length + 1 + 3 + 1 + 4 * i + 3)) (List.mem_append_left _ List.mem_cons_self) (List.mem_append_left _ (List.mem_cons_of_mem _ List.mem_cons_self)) (fun i hi => List.mem_append_right _ (List.mem_map.2 ⟨i, List.mem_range.2 hi, rfl⟩)) (by (first | ((simp (disch := (first | omega | assumption)) only [↓appC, ↓updN, ↓updS, ↓app0, ↓hpS, ↓hpN]) <;> first | rfl | assumption) | ((simp (disch := (first | omega | (intro _ _; dsimp only; omega))) only [↓appC, ↓updN, ↓updS, ↓app0, ↓famAO]) <;> first | rfl | assumption) | assumption | rfl)) (fun i hi => by (try (simp (disch := (first | omega | (intro _ _; dsimp only; omega))) only [↓appC, ↓updN, ↓updS, ↓app0, ↓famAO])); exact famA (w := (fun i => 1 + 5 + 4 * t.lk.length + 1 + 3 + 1 + 4 * i + 3)) (fun a b _ _ e => by (try dsimp only at e); omega) hi) (by (first | ((simp (disch := (first | omega | assumption)) only [↓appC, ↓updN, ↓updS, ↓app0, ↓hpS, ↓hpN]) <;> first | rfl | assumption) | ((simp (disch := (first | omega | (intro _ _; dsimp only; omega))) only [↓appC, ↓updN, ↓updS, ↓app0, ↓famAO]) <;> first | rfl | assumption) | assumption | rfl)) rfl rfl) (SnapL.cons _ _ _ _ (SnapC.agg (.cons _ _ _ _ (.int _ _) (.cons _ _ _ _ (.int _ _) (.cons _ _ _ _ (.sl _ _ _ (fun h => by cases h)) (.cons _ _ _ _ (.sl _ _ _ (fun h => by cases h)) .nil))))) SnapL.nil))
    · rfl
    · rfl
    · rfl
    refine dnot (c := true) rfl rfl rfl rfl rfl ?_
    refine dNilR 5 [0, 1, 0, 1, 1] [] rfl rfl (by decide +kernel) trivial ?_
    refine qSeq ?_
    refine wF rfl ?_
    refine wSkip ?_
    refine qSeq ?_
    refine wSeq ?_
    refine wRegion ?_
    refine raI rfl rfl rfl rfl rfl ?_
    refine rNil ?_
    refine qSeq ?_
    refine wSeq ?_
    refine wRegion ?_
    (apply rlr (vs := [.int _ _, .int _ _, _, _]) rfl rfl; (first | ((simp (disch := (first | omega | assumption)) only [↓appC, ↓updN, ↓updS, ↓app0, ↓hpS, ↓hpN]) <;> first | rfl | assumption) | ((simp (disch := (first | omega | (intro _ _; dsimp only; omega))) only [↓appC, ↓updN, ↓updS, ↓app0, ↓famAO]) <;> first | rfl | assumption) | assumption | rfl); rfl; rfl; (exact Nat.le_of_ble_eq_true rfl); rfl; rfl; rfl; rfl)
    refine rmI rfl rfl rfl rfl rfl ?_
    refine rop (o15 t (fun i => 1 + 5 + 4 * t.lk.length + 1 + 3 + 1 + 4 * i + 3) 1 (by omega) (by omega) (fun i hi => by have := hW i hi; omega) (by omega) (fun a b _ _ e => by (try dsimp only at e); omega) (lb := 1 + 5 + 4 * t.lk.length + 1 + 3) (sb := 1 + 5 + 4 * t.lk.length + 1 + 3 + 1 + 4 * t.lk.length) (by omega) (by omega) (by omega) (fun i hi => by (try dsimp only); omega) (fun i hi => by (try dsimp only); omega) (fun i hi => by (try dsimp only); omega) (by (first | ((simp (disch := (first | omega | assumption)) only [↓appC, ↓updN, ↓updS, ↓app0, ↓hpS, ↓hpN]) <;> first | rfl | assumption) | ((simp (disch := (first | omega | (intro _ _; dsimp only; omega))) only [↓appC, ↓updN, ↓updS, ↓app0, ↓famAO]) <;> first | rfl | assumption) | assumption | rfl)) (fun i hi => by (try (simp (disch := (first | omega | (intro _ _; dsimp only; omega))) only [↓appC, ↓updN, ↓updS, ↓app0, ↓famAO])); exact famA (w := (fun i => 1 + 5 + 4 * t.lk.length + 1 + 3 + 1 + 4 * i + 3)) (fun a b _ _ e => by (try dsimp only at e); omega) hi) (by (first | ((simp (disch := (first | omega | assumption)) only [↓appC, ↓updN, ↓updS, ↓app0, ↓hpS, ↓hpN]) <;> first | rfl | assumption) | ((simp (disch := (first | omega | (intro _ _; dsimp only; omega))) only [↓appC, ↓updN, ↓updS, ↓app0, ↓famAO]) <;> first | rfl | assumption) | assumption | rfl))) rfl rfl rfl rfl rfl rfl ?_
    refine raI rfl rfl rfl rfl rfl ?_
    refine rNil ?_
    refine qSeq ?_
    refine wSeq ?_
    refine wSeq ?_
    refine wRegion ?_
    refine rmI rfl rfl rfl rfl rfl ?_
    refine rlt rfl rfl rfl rfl rfl rfl (fun h => absurd h (by have := kL_bd (k := 1) (L := t.lk) (fun i hi => by have := hW i hi; omega); omega)) ?_
    intro h14_1
    refine rmB rfl rfl rfl rfl rfl ?_
    (apply rlr (vs := [.int _ _, .int _ _, _, _]) rfl rfl; (first | ((simp (disch := (first | omega | assumption)) only [↓appC, ↓updN, ↓updS, ↓app0, ↓hpS, ↓hpN]) <;> first | rfl | assumption) | ((simp (disch := (first | omega | (intro _ _; dsimp only; omega))) only [↓appC, ↓updN, ↓updS, ↓app0, ↓famAO]) <;> first | rfl | assumption) | assumption | rfl); rfl; rfl; (exact Nat.le_of_ble_eq_true rfl); rfl; rfl; rfl; rfl)
    (apply rlr (vs := [.int _ _, .int _ _, _, _]) rfl rfl; (first | ((simp (disch := (first | omega | assumption)) only [↓appC, ↓updN, ↓updS, ↓app0, ↓hpS, ↓hpN]) <;> first | rfl | assumption) | ((simp (disch := (first | omega | (intro _ _; dsimp only; omega))) only [↓appC, ↓updN, ↓updS, ↓app0, ↓famAO]) <;> first | rfl | assumption) | assumption | rfl); rfl; rfl; (exact Nat.le_of_ble_eq_true rfl); rfl; rfl; rfl; rfl)
    apply rclS [1 + 5 + 4 * t.lk.length + 1 + 5 + 4 * t.lk.length + 1 + 5] (s14 ⟨xt, xn, [], L⟩ true false true true false false (by simp) (fun i hi => absurd hi (Nat.not_lt_zero _)) hX3) rfl rfl rfl
    · exact (SnapL.cons _ _ _ _ (SnapC.agg (.cons _ _ _ _ (.int _ _) (.cons _ _ _ _ (.int _ _) (.cons _ _ _ _ .nslW (.cons _ _ _ _ (snapSn (L := L) (by simp) (by (first | ((simp (disch := (first | omega | assumption)) only [↓appC, ↓updN, ↓updS, ↓app0, ↓hpS, ↓hpN]) <;> first | rfl | assumption) | ((simp (disch := (first | omega | (intro _ _; dsimp only; omega))) only [↓appC, ↓updN, ↓updS, ↓app0, ↓famAO]) <;> first | rfl | assumption) | assumption | rfl)) rfl) .nil))))) (SnapL.cons _ _ _ _ (SnapC.agg (.cons _ _ _ _ (.int _ _) (.cons _ _ _ _ (.int _ _) (.cons _ _ _ _ (.sl _ _ _ (fun h => by cases h)) (.cons _ _ _ _ (.sl _ _ _ (fun h => by cases h)) .nil))))) SnapL.nil))
    · rfl
    · rfl
    · rfl
    refine rnot (c := true) rfl rfl rfl rfl rfl ?_
    refine rpk (e := false) rfl rfl rfl rfl rfl rfl ?_
    refine rmB rfl rfl rfl rfl rfl ?_
    refine rmI rfl rfl rfl rfl rfl ?_
    refine rmI rfl rfl rfl rfl rfl ?_
    refine rne rfl rfl rfl rfl rfl rfl (fun h => absurd h ((fun hh => hh rfl))) ?_
    intro h14_11
    refine rpk (e := false) rfl rfl rfl rfl rfl rfl ?_
    refine rNil ?_
    refine qSeq ?_
    refine wF rfl ?_
    refine wSkip ?_
    refine qSeq ?_
    refine wSeq ?_
    refine wRegion ?_
    refine raI rfl rfl rfl rfl rfl ?_
    refine rNil ?_
    refine qSeq ?_
    refine wSeq ?_
    refine wRegion ?_
    (apply rlr (vs := [.int _ _, .int _ _, _, _]) rfl rfl; (first | ((simp (disch := (first | omega | assumption)) only [↓appC, ↓updN, ↓updS, ↓app0, ↓hpS, ↓hpN]) <;> first | rfl | assumption) | ((simp (disch := (first | omega | (intro _ _; dsimp only; omega))) only [↓appC, ↓updN, ↓updS, ↓app0, ↓famAO]) <;> first | rfl | assumption) | assumption | rfl); rfl; rfl; (exact Nat.le_of_ble_eq_true rfl); rfl; rfl; rfl; rfl)
    refine rmI rfl rfl rfl rfl rfl ?_
    refine rop (o15z xt xn L 1 (by omega) hX3 (sb := 1 + 5 + 4 * t.lk.length + 1 + 5 + 4 * t.lk.length + 1 + 5) (by omega) (by (first | ((simp (disch := (first | omega | assumption)) only [↓appC, ↓updN, ↓updS, ↓app0, ↓hpS, ↓hpN]) <;> first | rfl | assumption) | ((simp (disch := (first | omega | (intro _ _; dsimp only; omega))) only [↓appC, ↓updN, ↓updS, ↓app0, ↓famAO]) <;> first | rfl | assumption) | assumption | rfl))) rfl rfl rfl rfl rfl rfl ?_
    refine raI rfl rfl rfl rfl rfl ?_
    refine rNil ?_
    refine qSeq ?_
    refine wSeq ?_
    refine wRegion ?_
    refine raI rfl rfl rfl rfl rfl ?_
    refine rNil ?_
    refine qSeq ?_
    refine wSeq ?_
    refine wRegion ?_
    (apply rlr (vs := [.int _ _, .int _ _, _, _]) rfl rfl; (first | ((simp (disch := (first | omega | assumption)) only [↓appC, ↓updN, ↓updS, ↓app0, ↓hpS, ↓hpN]) <;> first | rfl | assumption) | ((simp (disch := (first | omega | (intro _ _; dsimp only; omega))) only [↓appC, ↓updN, ↓updS, ↓app0, ↓famAO]) <;> first | rfl | assumption) | assumption | rfl); rfl; rfl; (exact Nat.le_of_ble_eq_true rfl); rfl; rfl; rfl; rfl)
    refine rmI rfl rfl rfl rfl rfl ?_
    apply rclS [1 + 5 + 4 * t.lk.length + 1 + 5 + 4 * t.lk.length + 1 + 5] (s20 xt xn true false true [] L.length 1 (by omega) (by simp) (fun i hi => absurd hi (Nat.not_lt_zero _)) (by first | exact hX3 | simp)) rfl rfl rfl
    · exact (SnapL.cons _ _ _ _ (SnapC.agg (.cons _ _ _ _ (.int _ _) (.cons _ _ _ _ (.int _ _) (.cons _ _ _ _ .nslW (.cons _ _ _ _ (snapSn (L := MS 1 L.length) (by simp) (by (first | ((simp (disch := (first | omega | assumption)) only [↓appC, ↓updN, ↓updS, ↓app0, ↓hpS, ↓hpN]) <;> first | rfl | assumption) | ((simp (disch := (first | omega | (intro _ _; dsimp only; omega))) only [↓appC, ↓updN, ↓updS, ↓app0, ↓famAO]) <;> first | rfl | assumption) | assumption | rfl)) (MS_len _ _).symm) .nil))))) (SnapL.cons _ _ _ _ (.one _ _ (.int _ _)) SnapL.nil))
    · rfl
    · rfl
    · rfl
    refine raI rfl rfl rfl rfl rfl ?_
    refine rNil ?_
    refine qSeq ?_
    refine wSeq ?_
    refine wSeq ?_
    refine wRegion ?_
    refine rmI rfl rfl rfl rfl rfl ?_
    refine rlt rfl rfl rfl rfl rfl rfl (fun h => absurd h (by (show ¬ ((1 : Int) + 6 * _ < 0)); omega)) ?_
    intro h20_1
    refine rNil ?_
    refine qSeq ?_
    refine wF rfl ?_
    refine wSkip ?_
    refine qSeq ?_
    refine wSeq ?_
    refine wSeq ?_
    refine wRegion ?_
    refine rmI rfl rfl rfl rfl rfl ?_
    refine rmI rfl rfl rfl rfl rfl ?_
    refine rne rfl rfl rfl rfl rfl rfl (fun h => absurd h ((fun hh => hh (by first | rfl | (simp; done) | (simp; omega) | omega)))) ?_
    intro h22_2
    refine rNil ?_
    refine qSeq ?_
    refine wF rfl ?_
    refine wSkip ?_
    refine qSeq ?_
    refine wSeq ?_
    refine wRegion ?_
    (apply rlr (vs := [.int _ _, .int _ _, _, _]) rfl rfl; (first | ((simp (disch := (first | omega | assumption)) only [↓appC, ↓updN, ↓updS, ↓app0, ↓hpS, ↓hpN]) <;> first | rfl | assumption) | ((simp (disch := (first | omega | (intro _ _; dsimp only; omega))) only [↓appC, ↓updN, ↓updS, ↓app0, ↓famAO]) <;> first | rfl | assumption) | assumption | rfl); rfl; rfl; (exact Nat.le_of_ble_eq_true rfl); rfl; rfl; rfl; rfl)
    refine rop (o11 t false n1 n2 hL hW hS) rfl rfl rfl rfl rfl rfl ?_
    refine rmI rfl rfl rfl rfl rfl ?_
    (apply rfs ([1 + 5 + 4 * t.lk.length + 1 + 5 + 4 * t.lk.length + 1 + 8 + 1 + 1 + 1 + 3, 1 + 5 + 4 * t.lk.length + 1 + 5 + 4 * t.lk.length + 1 + 8 + 1 + 1 + 1 + 3 + 1 + 4 * t.lk.length] ++ (List.range t.lk.length).map (fun i => 1 + 5 + 4 * t.lk.length + 1 + 5 + 4 * t.lk.length + 1 + 8 + 1 + 1 + 1 + 3 + 1 + 4 * i + 3)) (hI _) rfl rfl rfl; (exact (SnapL.cons _ _ _ _ (snapTb (w := (fun i => 1 + 5 + 4 * t.lk.length + 1 + 5 + 4 * t.lk.length + 1 + 8 + 1 + 1 + 1 + 3 + 1 + 4 * i + 3)) (List.mem_append_left _ List.mem_cons_self) (List.mem_append_left _ (List.mem_cons_of_mem _ List.mem_cons_self)) (fun i hi => List.mem_append_right _ (List.mem_map.2 ⟨i, List.mem_range.2 hi, rfl⟩)) (by (first | ((simp (disch := (first | omega | assumption)) only [↓appC, ↓updN, ↓updS, ↓app0, ↓hpS, ↓hpN]) <;> first | rfl | assumption) | ((simp (disch := (first | omega | (intro _ _; dsimp only; omega))) only [↓appC, ↓updN, ↓updS, ↓app0, ↓famAO]) <;> first | rfl | assumption) | assumption | rfl)) (fun i hi => by (try (simp (disch := (first | omega | (intro _ _; dsimp only; omega))) only [↓appC, ↓updN, ↓updS, ↓app0, ↓famAO])); exact famA (w := (fun i => 1 + 5 + 4 * t.lk.length + 1 + 5 + 4 * t.lk.length + 1 + 8 + 1 + 1 + 1 + 3 + 1 + 4 * i + 3)) (fun a b _ _ e => by (try dsimp only at e); omega) hi) (by (first | ((simp (disch := (first | omega | assumption)) only [↓appC, ↓updN, ↓updS, ↓app0, ↓hpS, ↓hpN]) <;> first | rfl | assumption) | ((simp (disch := (first | omega | (intro _ _; dsimp only; omega))) only [↓appC, ↓updN, ↓updS, ↓app0, ↓famAO]) <;> first | rfl | assumption) | assumption | rfl)) rfl rfl) (SnapL.cons _ _ _ _ (.one _ _ (.int _ _)) SnapL.nil))); rfl; (exact flatSn L); exact List.cons_ne_nil _ _; rfl; rfl; rfl)
    refine rmT rfl rfl rfl rfl rfl ?_
    refine rex rfl rfl rfl rfl rfl rfl ?_
    refine rex rfl rfl rfl rfl rfl rfl ?_
    refine ral rfl rfl rfl rfl rfl rfl ?_
    (apply rst (u := .agg [.int _ _, .int _ _, _, _]) rfl rfl rfl; (first | ((simp (disch := (first | omega | assumption)) only [↓appC, ↓updN, ↓updS, ↓app0, ↓hpS, ↓hpN]) <;> first | rfl | assumption) | ((simp (disch := (first | omega | (intro _ _; dsimp only; omega))) only [↓appC, ↓updN, ↓updS, ↓app0, ↓famAO]) <;> first | rfl | assumption) | assumption | rfl); rfl; rfl; rfl; rfl; rfl; (exact Nat.le_of_ble_eq_true rfl); rfl; rfl; rfl)
    refine raI rfl rfl rfl rfl rfl ?_
    refine rNil ?_
    refine qSeq ?_
    refine wSeq ?_
    refine wSeq ?_
    refine wRegion ?_
    (apply rlr (vs := [.int _ _, .int _ _, _, _]) rfl rfl; (first | ((simp (disch := (first | omega | assumption)) only [↓appC, ↓updN, ↓updS, ↓app0, ↓hpS, ↓hpN]) <;> first | rfl | assumption) | ((simp (disch := (first | omega | (intro _ _; dsimp only; omega))) only [↓appC, ↓updN, ↓updS, ↓app0, ↓famAO]) <;> first | rfl | assumption) | assumption | rfl); rfl; rfl; (exact Nat.le_of_ble_eq_true rfl); rfl; rfl; rfl; rfl)
    (apply rlr (vs := [.int _ _, .int _ _, _, _]) rfl rfl; (first | ((simp (disch := (first | omega | assumption)) only [↓appC, ↓updN, ↓updS, ↓app0, ↓hpS, ↓hpN]) <;> first | rfl | assumption) | ((simp (disch := (first | omega | (intro _ _; dsimp only; omega))) only [↓appC, ↓updN, ↓updS, ↓app0, ↓famAO]) <;> first | rfl | assumption) | assumption | rfl); rfl; rfl; (exact Nat.le_of_ble_eq_true rfl); rfl; rfl; rfl; rfl)
    apply rclS [1 + 5 + 4 * t.lk.length + 1 + 5 + 4 * t.lk.length + 1 + 8 + 1 + 1 + 1 + 5 + 4 * t.lk.length + 5] (s14 ⟨xt, xn, [], L⟩ true false true true false false (by simp) (fun i hi => absurd hi (Nat.not_lt_zero _)) hX3) rfl rfl rfl
    · exact (SnapL.cons _ _ _ _ (SnapC.agg (.cons _ _ _ _ (.int _ _) (.cons _ _ _ _ (.int _ _) (.cons _ _ _ _ .nslW (.cons _ _ _ _ (snapSn (L := L) (by simp) (by (first | ((simp (disch := (first | omega | assumption)) only [↓appC, ↓updN, ↓updS, ↓app0, ↓hpS, ↓hpN]) <;> first | rfl | assumption) | ((simp (disch := (first | omega | (intro _ _; dsimp only; omega))) only [↓appC, ↓updN, ↓updS, ↓app0, ↓famAO]) <;> first | rfl | assumption) | assumption | rfl)) rfl) .nil))))) (SnapL.cons _ _ _ _ (SnapC.agg (.cons _ _ _ _ (.int _ _) (.cons _ _ _ _ (.int _ _) (.cons _ _ _ _ (.sl _ _ _ (fun h => by cases h)) (.cons _ _ _ _ (.sl _ _ _ (fun h => by cases h)) .nil))))) SnapL.nil))
    · rfl
    · rfl
    · rfl
    refine rnot (c := true) rfl rfl rfl rfl rfl ?_
    refine rmB rfl rfl rfl rfl rfl ?_
    refine rmI rfl rfl rfl rfl rfl ?_
    refine rmI rfl rfl rfl rfl rfl ?_
    refine rne rfl rfl rfl rfl rfl rfl (fun h => absurd h ((fun hh => hh rfl))) ?_
    intro h25_7
    refine rpk (e := false) rfl rfl rfl rfl rfl rfl ?_
    refine rNil ?_
    refine qSeq ?_
    refine wF rfl ?_
    refine wSkip ?_
    refine qSeq ?_
    refine wSeq ?_
    refine wRegion ?_
    refine raI rfl rfl rfl rfl rfl ?_
    refine rNil ?_
    refine qSeq ?_
    refine wSeq ?_
    refine wRegion ?_
    (apply rlr (vs := [.int _ _, .int _ _, _, _]) rfl rfl; (first | ((simp (disch := (first | omega | assumption)) only [↓appC, ↓updN, ↓updS, ↓app0, ↓hpS, ↓hpN]) <;> first | rfl | assumption) | ((simp (disch := (first | omega | (intro _ _; dsimp only; omega))) only [↓appC, ↓updN, ↓updS, ↓app0, ↓famAO]) <;> first | rfl | assumption) | assumption | rfl); rfl; rfl; (exact Nat.le_of_ble_eq_true rfl); rfl; rfl; rfl; rfl)
    refine rmI rfl rfl rfl rfl rfl ?_
    apply rclS [1 + 5 + 4 * t.lk.length + 1 + 5 + 4 * t.lk.length + 1 + 5] (s20 xt xn true false true [] L.length 1 (by omega) (by simp) (fun i hi => absurd hi (Nat.not_lt_zero _)) (by first | exact hX3 | simp)) rfl rfl rfl
    · exact (SnapL.cons _ _ _ _ (SnapC.agg (.cons _ _ _ _ (.int _ _) (.cons _ _ _ _ (.int _ _) (.cons _ _ _ _ .nslW (.cons _ _ _ _ (snapSn (L := MS 1 L.length) (by simp) (by (first | ((simp (disch := (first | omega | assumption)) only [↓appC, ↓updN, ↓updS, ↓app0, ↓hpS, ↓hpN]) <;> first | rfl | assumption) | ((simp (disch := (first | omega | (intro _ _; dsimp only; omega))) only [↓appC, ↓updN, ↓updS, ↓app0, ↓famAO]) <;> first | rfl | assumption) | assumption | rfl)) (MS_len _ _).symm) .nil))))) (SnapL.cons _ _ _ _ (.one _ _ (.int _ _)) SnapL.nil))
    · rfl
    · rfl
    · rfl
    refine raI rfl rfl rfl rfl rfl ?_
    refine rNil ?_
    refine qSeq ?_
    refine wSeq ?_
    refine wSeq ?_
    refine wRegion ?_
    refine rmI rfl rfl rfl rfl rfl ?_
    refine rlt rfl rfl rfl rfl rfl rfl (fun h => absurd h (by (show ¬ ((1 : Int) + 6 * _ < 0)); omega)) ?_
    intro h29_1
    refine rNil ?_
    refine qSeq ?_
    refine wF rfl ?_
    refine wSkip ?_
    refine qSeq ?_
    refine wSeq ?_
    refine wSeq ?_
    refine wRegion ?_
    refine rmI rfl rfl rfl rfl rfl ?_
    refine rmI rfl rfl rfl rfl rfl ?_
    refine rne rfl rfl rfl rfl rfl rfl (fun h => absurd h ((fun hh => hh (by first | rfl | (simp; done) | (simp; omega) | omega)))) ?_
    intro h31_2
    refine rNil ?_
    refine qSeq ?_
    refine wF rfl ?_
    refine wSkip ?_
    refine qSeq ?_
    refine wSeq ?_
    refine wRegion ?_
    refine raB rfl rfl rfl rfl rfl ?_
    refine rNil ?_
    refine qSeq ?_
    refine wRet ?_
    exact fin rfl rfl
theorem expV (t : Tb) (now : Int) (n1 n2 : Bool) (X : Tb) (code : Int) (Q : Nat → List (List V)) (hQ : ∀ i, ∀ e ∈ Q i, ∀ x ∈ e, x.flat = true) (hX1 : X.lk.length ≤ 1048577) (hX2 : ∀ i, i < X.lk.length → (X.lk.getD i Lk0).ws.length ≤ 1048577) (hX3 : X.sn.length ≤ 1048577) (hL : t.lk.length ≤ 1048576) (hW : ∀ i, i < t.lk.length → (t.lk.getD i Lk0).ws.length ≤ 1048576) (hS : t.sn.length ≤ 1048576)
    (hm : t.lk.length ≤ 9223372036854775807) (hz : ∀ i, i < t.lk.length → (t.lk.getD i Lk0).nm.size ≤ 9223372036854775807 ∧ (t.lk.getD i Lk0).ws.length ≤ 9223372036854775807) (ha : t.sn.length ≤ 9223372036854775807) (hS18 : Pure En 18 [.agg (t.T true true true), .one (.int .i64 now)] [.agg (X.T true false false), .one (.int .i64 code)]) (hI : ∀ n, V.Open En 19 ([A.agg (t.T true true true), A.one (.int .i64 now)].map (A.toV false)) (fun _ => none) n (.tup [.agg [.int .i64 X.tm, .int .i64 X.nx, .view (n + 2 + 5 * X.lk.length + 4) 0 X.lk.length, .view (n + 5) 0 X.sn.length], .int .i64 code]) ([(n + 5, some ⟨X.sn.map Sn.V, 6, 115⟩), (n + 2 + 5 * X.lk.length + 4, some ⟨lkP (fun i => n + 2 + 5 + 5 * i + 2) Q X.lk, 5, 29⟩)] ++ famL (fun i => n + 2 + 5 + 5 * i + 2) (wsP Q X.lk) X.lk.length) (n + 8 + 6 * X.lk.length)) :
    Pure En 4 [.agg (t.T false n1 n2), .one (.int .i64 now)] [.one (.bool true)] := by
  have hML : ∀ i, i < (ML 1 X.lk).length → i < X.lk.length := fun i h => Nat.lt_of_lt_of_eq h (ML_len _ _)
  refine Pure.of_wp Try.func4 rfl (Nat.le_of_ble_eq_true rfl) ?_
  refine wSeq ?_
  refine wRegion ?_
  refine rbx (u := .agg [.int _ _, .int _ _, _, _]) rfl rfl rfl rfl rfl rfl rfl ?_
  refine raB rfl rfl rfl rfl rfl ?_
  refine rNil ?_
  refine qSeq ?_
  refine wSeq ?_
  refine wRegion ?_
  refine raI rfl rfl rfl rfl rfl ?_
  refine rNil ?_
  refine qSeq ?_
  refine wSeq ?_
  refine wRegion ?_
  (apply rlr (vs := [.int _ _, .int _ _, _, _]) rfl rfl; (first | ((simp (disch := (first | omega | assumption)) only [↓appC, ↓updN, ↓updS, ↓app0, ↓hpS, ↓hpN]) <;> first | rfl | assumption) | ((simp (disch := (first | omega | (intro _ _; dsimp only; omega))) only [↓appC, ↓updN, ↓updS, ↓app0, ↓famAO]) <;> first | rfl | assumption) | assumption | rfl); rfl; rfl; (exact Nat.le_of_ble_eq_true rfl); rfl; rfl; rfl; rfl)
  refine rmI rfl rfl rfl rfl rfl ?_
  refine rclX (s9 n1 n2 false t 1048576 (by omega) hm hz ha) rfl rfl rfl rfl rfl rfl ?_
  rintro x h2_2
  try dsimp only at h2_2
  refine raI rfl rfl rfl rfl rfl ?_
  refine rNil ?_
  refine qSeq ?_
  refine wSeq ?_
  refine wSeq ?_
  refine wRegion ?_
  refine rmI rfl rfl rfl rfl rfl ?_
  refine rlt rfl rfl rfl rfl rfl rfl ?_ ?_ <;> intro h3_1
  · refine rNil ?_
    refine qSeq ?_
    refine wT rfl ?_
    refine wSeq ?_
    refine wRegion ?_
    refine raB rfl rfl rfl rfl rfl ?_
    refine rNil ?_
    refine qSeq ?_
    refine wRet ?_
    refine qSeqR ?_
    exact fin rfl rfl
  · refine rNil ?_
    refine qSeq ?_
    refine wF rfl ?_
    refine wSkip ?_
    refine qSeq ?_
    refine wSeq ?_
    refine wRegion ?_
    (apply rlr (vs := [.int _ _, .int _ _, _, _]) rfl rfl; (first | ((simp (disch := (first | omega | assumption)) only [↓appC, ↓updN, ↓updS, ↓app0, ↓hpS, ↓hpN]) <;> first | rfl | assumption) | ((simp (disch := (first | omega | (intro _ _; dsimp only; omega))) only [↓appC, ↓updN, ↓updS, ↓app0, ↓famAO]) <;> first | rfl | assumption) | assumption | rfl); rfl; rfl; (exact Nat.le_of_ble_eq_true rfl); rfl; rfl; rfl; rfl)
    refine rop (o11 t false n1 n2 hL hW hS) rfl rfl rfl rfl rfl rfl ?_
    refine rmI rfl rfl rfl rfl rfl ?_
    apply rclS ([1 + 3, 1 + 3 + 1 + 4 * t.lk.length] ++ (List.range t.lk.length).map (fun i => 1 + 3 + 1 + 4 * i + 3)) hS18 rfl rfl rfl
    · exact (SnapL.cons _ _ _ _ (snapTb (w := (fun i => 1 + 3 + 1 + 4 * i + 3)) (List.mem_append_left _ List.mem_cons_self) (List.mem_append_left _ (List.mem_cons_of_mem _ List.mem_cons_self)) (fun i hi => List.mem_append_right _ (List.mem_map.2 ⟨i, List.mem_range.2 hi, rfl⟩)) (by (first | ((simp (disch := (first | omega | assumption)) only [↓appC, ↓updN, ↓updS, ↓app0, ↓hpS, ↓hpN]) <;> first | rfl | assumption) | ((simp (disch := (first | omega | (intro _ _; dsimp only; omega))) only [↓appC, ↓updN, ↓updS, ↓app0, ↓famAO]) <;> first | rfl | assumption) | assumption | rfl)) (fun i hi => by (try (simp (disch := (first | omega | (intro _ _; dsimp only; omega))) only [↓appC, ↓updN, ↓updS, ↓app0, ↓famAO])); exact famA (w := (fun i => 1 + 3 + 1 + 4 * i + 3)) (fun a b _ _ e => by (try dsimp only at e); omega) hi) (by (first | ((simp (disch := (first | omega | assumption)) only [↓appC, ↓updN, ↓updS, ↓app0, ↓hpS, ↓hpN]) <;> first | rfl | assumption) | ((simp (disch := (first | omega | (intro _ _; dsimp only; omega))) only [↓appC, ↓updN, ↓updS, ↓app0, ↓famAO]) <;> first | rfl | assumption) | assumption | rfl)) rfl rfl) (SnapL.cons _ _ _ _ (.one _ _ (.int _ _)) SnapL.nil))
    · rfl
    · rfl
    · rfl
    refine rmT rfl rfl rfl rfl rfl ?_
    refine rex rfl rfl rfl rfl rfl rfl ?_
    refine rex rfl rfl rfl rfl rfl rfl ?_
    refine ral rfl rfl rfl rfl rfl rfl ?_
    (apply rst (u := .agg [.int _ _, .int _ _, _, _]) rfl rfl rfl; (first | ((simp (disch := (first | omega | assumption)) only [↓appC, ↓updN, ↓updS, ↓app0, ↓hpS, ↓hpN]) <;> first | rfl | assumption) | ((simp (disch := (first | omega | (intro _ _; dsimp only; omega))) only [↓appC, ↓updN, ↓updS, ↓app0, ↓famAO]) <;> first | rfl | assumption) | assumption | rfl); rfl; rfl; rfl; rfl; rfl; (exact Nat.le_of_ble_eq_true rfl); rfl; rfl; rfl)
    refine raI rfl rfl rfl rfl rfl ?_
    refine rNil ?_
    refine qSeq ?_
    refine wSeq ?_
    refine wRegion ?_
    (apply rlr (vs := [.int _ _, .int _ _, _, _]) rfl rfl; (first | ((simp (disch := (first | omega | assumption)) only [↓appC, ↓updN, ↓updS, ↓app0, ↓hpS, ↓hpN]) <;> first | rfl | assumption) | ((simp (disch := (first | omega | (intro _ _; dsimp only; omega))) only [↓appC, ↓updN, ↓updS, ↓app0, ↓famAO]) <;> first | rfl | assumption) | assumption | rfl); rfl; rfl; (exact Nat.le_of_ble_eq_true rfl); rfl; rfl; rfl; rfl)
    refine rop (o11 t false n1 n2 hL hW hS) rfl rfl rfl rfl rfl rfl ?_
    refine ral rfl rfl rfl rfl rfl rfl ?_
    (apply rst (u := .agg [.int _ _, .int _ _, _, _]) rfl rfl rfl; (first | ((simp (disch := (first | omega | assumption)) only [↓appC, ↓updN, ↓updS, ↓app0, ↓hpS, ↓hpN]) <;> first | rfl | assumption) | ((simp (disch := (first | omega | (intro _ _; dsimp only; omega))) only [↓appC, ↓updN, ↓updS, ↓app0, ↓famAO]) <;> first | rfl | assumption) | assumption | rfl); rfl; rfl; rfl; rfl; rfl; (exact Nat.le_of_ble_eq_true rfl); rfl; rfl; rfl)
    refine rNil ?_
    refine qSeq ?_
    refine wSeq ?_
    refine wRegion ?_
    (apply rlr (vs := [.int _ _, .int _ _, _, _]) rfl rfl; (first | ((simp (disch := (first | omega | assumption)) only [↓appC, ↓updN, ↓updS, ↓app0, ↓hpS, ↓hpN]) <;> first | rfl | assumption) | ((simp (disch := (first | omega | (intro _ _; dsimp only; omega))) only [↓appC, ↓updN, ↓updS, ↓app0, ↓famAO]) <;> first | rfl | assumption) | assumption | rfl); rfl; rfl; (exact Nat.le_of_ble_eq_true rfl); rfl; rfl; rfl; rfl)
    refine rmI rfl rfl rfl rfl rfl ?_
    (apply rfs ([1 + 5 + 4 * t.lk.length + 1 + 3, 1 + 5 + 4 * t.lk.length + 1 + 3 + 1 + 4 * t.lk.length] ++ (List.range t.lk.length).map (fun i => 1 + 5 + 4 * t.lk.length + 1 + 3 + 1 + 4 * i + 3)) (hI _) rfl rfl rfl; (exact (SnapL.cons _ _ _ _ (snapTb (w := (fun i => 1 + 5 + 4 * t.lk.length + 1 + 3 + 1 + 4 * i + 3)) (List.mem_append_left _ List.mem_cons_self) (List.mem_append_left _ (List.mem_cons_of_mem _ List.mem_cons_self)) (fun i hi => List.mem_append_right _ (List.mem_map.2 ⟨i, List.mem_range.2 hi, rfl⟩)) (by (first | ((simp (disch := (first | omega | assumption)) only [↓appC, ↓updN, ↓updS, ↓app0, ↓hpS, ↓hpN]) <;> first | rfl | assumption) | ((simp (disch := (first | omega | (intro _ _; dsimp only; omega))) only [↓appC, ↓updN, ↓updS, ↓app0, ↓famAO]) <;> first | rfl | assumption) | assumption | rfl)) (fun i hi => by (try (simp (disch := (first | omega | (intro _ _; dsimp only; omega))) only [↓appC, ↓updN, ↓updS, ↓app0, ↓famAO])); exact famA (w := (fun i => 1 + 5 + 4 * t.lk.length + 1 + 3 + 1 + 4 * i + 3)) (fun a b _ _ e => by (try dsimp only at e); omega) hi) (by (first | ((simp (disch := (first | omega | assumption)) only [↓appC, ↓updN, ↓updS, ↓app0, ↓hpS, ↓hpN]) <;> first | rfl | assumption) | ((simp (disch := (first | omega | (intro _ _; dsimp only; omega))) only [↓appC, ↓updN, ↓updS, ↓app0, ↓famAO]) <;> first | rfl | assumption) | assumption | rfl)) rfl rfl) (SnapL.cons _ _ _ _ (.one _ _ (.int _ _)) SnapL.nil))); rfl; (exact flatTb hQ); exact List.cons_ne_nil _ _; rfl; rfl; rfl)
    refine rmT rfl rfl rfl rfl rfl ?_
    refine rex rfl rfl rfl rfl rfl rfl ?_
    refine rex rfl rfl rfl rfl rfl rfl ?_
    refine ral rfl rfl rfl rfl rfl rfl ?_
    (apply rst (u := .agg [.int _ _, .int _ _, _, _]) rfl rfl rfl; (first | ((simp (disch := (first | omega | assumption)) only [↓appC, ↓updN, ↓updS, ↓app0, ↓hpS, ↓hpN]) <;> first | rfl | assumption) | ((simp (disch := (first | omega | (intro _ _; dsimp only; omega))) only [↓appC, ↓updN, ↓updS, ↓app0, ↓famAO]) <;> first | rfl | assumption) | assumption | rfl); rfl; rfl; rfl; rfl; rfl; (exact Nat.le_of_ble_eq_true rfl); rfl; rfl; rfl)
    refine raI rfl rfl rfl rfl rfl ?_
    refine rNil ?_
    refine qSeq ?_
    refine wSeq ?_
    refine wSeq ?_
    refine wRegion ?_
    (apply rlr (vs := [.int _ _, .int _ _, _, _]) rfl rfl; (first | ((simp (disch := (first | omega | assumption)) only [↓appC, ↓updN, ↓updS, ↓app0, ↓hpS, ↓hpN]) <;> first | rfl | assumption) | ((simp (disch := (first | omega | (intro _ _; dsimp only; omega))) only [↓appC, ↓updN, ↓updS, ↓app0, ↓famAO]) <;> first | rfl | assumption) | assumption | rfl); rfl; rfl; (exact Nat.le_of_ble_eq_true rfl); rfl; rfl; rfl; rfl)
    (apply rlr (vs := [.int _ _, .int _ _, _, _]) rfl rfl; (first | ((simp (disch := (first | omega | assumption)) only [↓appC, ↓updN, ↓updS, ↓app0, ↓hpS, ↓hpN]) <;> first | rfl | assumption) | ((simp (disch := (first | omega | (intro _ _; dsimp only; omega))) only [↓appC, ↓updN, ↓updS, ↓app0, ↓famAO]) <;> first | rfl | assumption) | assumption | rfl); rfl; rfl; (exact Nat.le_of_ble_eq_true rfl); rfl; rfl; rfl; rfl)
    apply rclS ([1 + 5 + 4 * t.lk.length + 1 + 5 + 4 * t.lk.length + 1 + 2 + 5 * X.lk.length + 4, 1 + 5 + 4 * t.lk.length + 1 + 5 + 4 * t.lk.length + 1 + 5] ++ (List.range X.lk.length).map (fun i => 1 + 5 + 4 * t.lk.length + 1 + 5 + 4 * t.lk.length + 1 + 2 + 5 + 5 * i + 2)) (s14 X true true true true false false hX1 hX2 hX3) rfl rfl rfl
    · exact (SnapL.cons _ _ _ _ (snapTbP (w := (fun i => 1 + 5 + 4 * t.lk.length + 1 + 5 + 4 * t.lk.length + 1 + 2 + 5 + 5 * i + 2)) (P := Q) (t := X) (List.mem_append_left _ List.mem_cons_self) (List.mem_append_left _ (List.mem_cons_of_mem _ List.mem_cons_self)) (fun i hi => List.mem_append_right _ (List.mem_map.2 ⟨i, List.mem_range.2 hi, rfl⟩)) (by (first | ((simp (disch := (first | omega | assumption)) only [↓appC, ↓updN, ↓updS, ↓app0, ↓hpS, ↓hpN]) <;> first | rfl | assumption) | ((simp (disch := (first | omega | (intro _ _; dsimp only; omega))) only [↓appC, ↓updN, ↓updS, ↓app0, ↓famAO]) <;> first | rfl | assumption) | assumption | rfl)) (fun i hi => by (try (simp (disch := (first | omega | (intro _ _; dsimp only; omega))) only [↓appC, ↓updN, ↓updS, ↓app0, ↓famAO])); exact famA (w := (fun i => 1 + 5 + 4 * t.lk.length + 1 + 5 + 4 * t.lk.length + 1 + 2 + 5 + 5 * i + 2)) (fun a b _ _ e => by (try dsimp only at e); omega) hi) (by (first | ((simp (disch := (first | omega | assumption)) only [↓appC, ↓updN, ↓updS, ↓app0, ↓hpS, ↓hpN]) <;> first | rfl | assumption) | ((simp (disch := (first | omega | (intro _ _; dsimp only; omega))) only [↓appC, ↓updN, ↓updS, ↓app0, ↓famAO]) <;> first | rfl | assumption) | assumption | rfl)) rfl rfl) (SnapL.cons _ _ _ _ (SnapC.agg (.cons _ _ _ _ (.int _ _) (.cons _ _ _ _ (.int _ _) (.cons _ _ _ _ (.sl _ _ _ (fun h => by cases h)) (.cons _ _ _ _ (.sl _ _ _ (fun h => by cases h)) .nil))))) SnapL.nil))
    · rfl
    · rfl
    · rfl
    refine rnot (c := true) rfl rfl rfl rfl rfl ?_
    refine rmB rfl rfl rfl rfl rfl ?_
    refine rmI rfl rfl rfl rfl rfl ?_
    refine rmI rfl rfl rfl rfl rfl ?_
    refine rne rfl rfl rfl rfl rfl rfl (fun h => absurd h ((fun hh => hh rfl))) ?_
    intro h8_7
    refine rpk (e := false) rfl rfl rfl rfl rfl rfl ?_
    refine rNil ?_
    refine qSeq ?_
    refine wF rfl ?_
    refine wSkip ?_
    refine qSeq ?_
    refine wSeq ?_
    refine wSeq ?_
    refine wDraw [0, 0, 2, 7, 15] rfl (by decide +kernel) ?_
    (apply dlr (vs := [.int _ _, .int _ _, _, _]) rfl rfl; (first | ((simp (disch := (first | omega | assumption)) only [↓appC, ↓updN, ↓updS, ↓app0, ↓hpS, ↓hpN]) <;> first | rfl | assumption) | ((simp (disch := (first | omega | (intro _ _; dsimp only; omega))) only [↓appC, ↓updN, ↓updS, ↓app0, ↓famAO]) <;> first | rfl | assumption) | assumption | rfl); rfl; rfl; (exact Nat.le_of_ble_eq_true rfl); rfl; rfl; rfl; rfl)
    (apply dlr (vs := [.int _ _, .int _ _, _, _]) rfl rfl; (first | ((simp (disch := (first | omega | assumption)) only [↓appC, ↓updN, ↓updS, ↓app0, ↓hpS, ↓hpN]) <;> first | rfl | assumption) | ((simp (disch := (first | omega | (intro _ _; dsimp only; omega))) only [↓appC, ↓updN, ↓updS, ↓app0, ↓famAO]) <;> first | rfl | assumption) | assumption | rfl); rfl; rfl; (exact Nat.le_of_ble_eq_true rfl); rfl; rfl; rfl; rfl)
    refine dcl (s11 t n1 n2 hL hW hS) rfl rfl rfl rfl rfl rfl ?_
    apply dclS ([1 + 5 + 4 * t.lk.length + 1 + 3, 1 + 5 + 4 * t.lk.length + 1 + 3 + 1 + 4 * t.lk.length] ++ (List.range t.lk.length).map (fun i => 1 + 5 + 4 * t.lk.length + 1 + 3 + 1 + 4 * i + 3)) (s14 t true true true true true true (by omega) (fun i hi => by have := hW i hi; omega) (by omega)) rfl rfl rfl
    · exact (SnapL.cons _ _ _ _ (snapTb (w := (fun i => 1 + 5 + 4 * t.lk.length + 1 + 3 + 1 + 4 * i + 3)) (List.mem_append_left _ List.mem_cons_self) (List.mem_append_left _ (List.mem_cons_of_mem _ List.mem_cons_self)) (fun i hi => List.mem_append_right _ (List.mem_map.2 ⟨i, List.mem_range.2 hi, rfl⟩)) (by (first | ((simp (disch := (first | omega | assumption)) only [↓appC, ↓updN, ↓updS, ↓app0, ↓hpS, ↓hpN]) <;> first | rfl | assumption) | ((simp (disch := (first | omega | (intro _ _; dsimp only; omega))) only [↓appC, ↓updN, ↓updS, ↓app0, ↓famAO]) <;> first | rfl | assumption) | assumption | rfl)) (fun i hi => by (try (simp (disch := (first | omega | (intro _ _; dsimp only; omega))) only [↓appC, ↓updN, ↓updS, ↓app0, ↓famAO])); exact famA (w := (fun i => 1 + 5 + 4 * t.lk.length + 1 + 3 + 1 + 4 * i + 3)) (fun a b _ _ e => by (try dsimp only at e); omega) hi) (by (first | ((simp (disch := (first | omega | assumption)) only [↓appC, ↓updN, ↓updS, ↓app0, ↓hpS, ↓hpN]) <;> first | rfl | assumption) | ((simp (disch := (first | omega | (intro _ _; dsimp only; omega))) only [↓appC, ↓updN, ↓updS, ↓app0, ↓famAO]) <;> first | rfl | assumption) | assumption | rfl)) rfl rfl) (SnapL.cons _ _ _ _ (SnapC.agg (.cons _ _ _ _ (.int _ _) (.cons _ _ _ _ (.int _ _) (.cons _ _ _ _ (.sl _ _ _ (fun h => by cases h)) (.cons _ _ _ _ (.sl _ _ _ (fun h => by cases h)) .nil))))) SnapL.nil))
    · rfl
    · rfl
    · rfl
    refine dnot (c := true) rfl rfl rfl rfl rfl ?_
    refine dNilR 5 [0, 1, 0, 1, 1] [] rfl rfl (by decide +kernel) trivial ?_
    refine qSeq ?_
    refine wF rfl ?_
    refine wSkip ?_
    refine qSeq ?_
    refine wSeq ?_
    refine wRegion ?_
    refine raI rfl rfl rfl rfl rfl ?_
    refine rNil ?_
    refine qSeq ?_
    refine wSeq ?_
    refine wRegion ?_
    (apply rlr (vs := [.int _ _, .int _ _, _, _]) rfl rfl; (first | ((simp (disch := (first | omega | assumption)) only [↓appC, ↓updN, ↓updS, ↓app0, ↓hpS, ↓hpN]) <;> first | rfl | assumption) | ((simp (disch := (first | omega | (intro _ _; dsimp only; omega))) only [↓appC, ↓updN, ↓updS, ↓app0, ↓famAO]) <;> first | rfl | assumption) | assumption | rfl); rfl; rfl; (exact Nat.le_of_ble_eq_true rfl); rfl; rfl; rfl; rfl)
    refine rmI rfl rfl rfl rfl rfl ?_
    refine rop (o15 t (fun i => 1 + 5 + 4 * t.lk.length + 1 + 3 + 1 + 4 * i + 3) 1 (by omega) (by omega) (fun i hi => by have := hW i hi; omega) (by omega) (fun a b _ _ e => by (try dsimp only at e); omega) (lb := 1 + 5 + 4 * t.lk.length + 1 + 3) (sb := 1 + 5 + 4 * t.lk.length + 1 + 3 + 1 + 4 * t.lk.length) (by omega) (by omega) (by omega) (fun i hi => by (try dsimp only); omega) (fun i hi => by (try dsimp only); omega) (fun i hi => by (try dsimp only); omega) (by (first | ((simp (disch := (first | omega | assumption)) only [↓appC, ↓updN, ↓updS, ↓app0, ↓hpS, ↓hpN]) <;> first | rfl | assumption) | ((simp (disch := (first | omega | (intro _ _; dsimp only; omega))) only [↓appC, ↓updN, ↓updS, ↓app0, ↓famAO]) <;> first | rfl | assumption) | assumption | rfl)) (fun i hi => by (try (simp (disch := (first | omega | (intro _ _; dsimp only; omega))) only [↓appC, ↓updN, ↓updS, ↓app0, ↓famAO])); exact famA (w := (fun i => 1 + 5 + 4 * t.lk.length + 1 + 3 + 1 + 4 * i + 3)) (fun a b _ _ e => by (try dsimp only at e); omega) hi) (by (first | ((simp (disch := (first | omega | assumption)) only [↓appC, ↓updN, ↓updS, ↓app0, ↓hpS, ↓hpN]) <;> first | rfl | assumption) | ((simp (disch := (first | omega | (intro _ _; dsimp only; omega))) only [↓appC, ↓updN, ↓updS, ↓app0, ↓famAO]) <;> first | rfl | assumption) | assumption | rfl))) rfl rfl rfl rfl rfl rfl ?_
    refine raI rfl rfl rfl rfl rfl ?_
    refine rNil ?_
    refine qSeq ?_
    refine wSeq ?_
    refine wSeq ?_
    refine wRegion ?_
    refine rmI rfl rfl rfl rfl rfl ?_
    refine rlt rfl rfl rfl rfl rfl rfl (fun h => absurd h (by have := kL_bd (k := 1) (L := t.lk) (fun i hi => by have := hW i hi; omega); omega)) ?_
    intro h14_1
    refine rmB rfl rfl rfl rfl rfl ?_
    (apply rlr (vs := [.int _ _, .int _ _, _, _]) rfl rfl; (first | ((simp (disch := (first | omega | assumption)) only [↓appC, ↓updN, ↓updS, ↓app0, ↓hpS, ↓hpN]) <;> first | rfl | assumption) | ((simp (disch := (first | omega | (intro _ _; dsimp only; omega))) only [↓appC, ↓updN, ↓updS, ↓app0, ↓famAO]) <;> first | rfl | assumption) | assumption | rfl); rfl; rfl; (exact Nat.le_of_ble_eq_true rfl); rfl; rfl; rfl; rfl)
    (apply rlr (vs := [.int _ _, .int _ _, _, _]) rfl rfl; (first | ((simp (disch := (first | omega | assumption)) only [↓appC, ↓updN, ↓updS, ↓app0, ↓hpS, ↓hpN]) <;> first | rfl | assumption) | ((simp (disch := (first | omega | (intro _ _; dsimp only; omega))) only [↓appC, ↓updN, ↓updS, ↓app0, ↓famAO]) <;> first | rfl | assumption) | assumption | rfl); rfl; rfl; (exact Nat.le_of_ble_eq_true rfl); rfl; rfl; rfl; rfl)
    apply rclS ([1 + 5 + 4 * t.lk.length + 1 + 5 + 4 * t.lk.length + 1 + 2 + 5 * X.lk.length + 4, 1 + 5 + 4 * t.lk.length + 1 + 5 + 4 * t.lk.length + 1 + 5] ++ (List.range X.lk.length).map (fun i => 1 + 5 + 4 * t.lk.length + 1 + 5 + 4 * t.lk.length + 1 + 2 + 5 + 5 * i + 2)) (s14 X true true true true false false hX1 hX2 hX3) rfl rfl rfl
    · exact (SnapL.cons _ _ _ _ (snapTbP (w := (fun i => 1 + 5 + 4 * t.lk.length + 1 + 5 + 4 * t.lk.length + 1 + 2 + 5 + 5 * i + 2)) (P := Q) (t := X) (List.mem_append_left _ List.mem_cons_self) (List.mem_append_left _ (List.mem_cons_of_mem _ List.mem_cons_self)) (fun i hi => List.mem_append_right _ (List.mem_map.2 ⟨i, List.mem_range.2 hi, rfl⟩)) (by (first | ((simp (disch := (first | omega | assumption)) only [↓appC, ↓updN, ↓updS, ↓app0, ↓hpS, ↓hpN]) <;> first | rfl | assumption) | ((simp (disch := (first | omega | (intro _ _; dsimp only; omega))) only [↓appC, ↓updN, ↓updS, ↓app0, ↓famAO]) <;> first | rfl | assumption) | assumption | rfl)) (fun i hi => by (try (simp (disch := (first | omega | (intro _ _; dsimp only; omega))) only [↓appC, ↓updN, ↓updS, ↓app0, ↓famAO])); exact famA (w := (fun i => 1 + 5 + 4 * t.lk.length + 1 + 5 + 4 * t.lk.length + 1 + 2 + 5 + 5 * i + 2)) (fun a b _ _ e => by (try dsimp only at e); omega) hi) (by (first | ((simp (disch := (first | omega | assumption)) only [↓appC, ↓updN, ↓updS, ↓app0, ↓hpS, ↓hpN]) <;> first | rfl | assumption) | ((simp (disch := (first | omega | (intro _ _; dsimp only; omega))) only [↓appC, ↓updN, ↓updS, ↓app0, ↓famAO]) <;> first | rfl | assumption) | assumption | rfl)) rfl rfl) (SnapL.cons _ _ _ _ (SnapC.agg (.cons _ _ _ _ (.int _ _) (.cons _ _ _ _ (.int _ _) (.cons _ _ _ _ (.sl _ _ _ (fun h => by cases h)) (.cons _ _ _ _ (.sl _ _ _ (fun h => by cases h)) .nil))))) SnapL.nil))
    · rfl
    · rfl
    · rfl
    refine rnot (c := true) rfl rfl rfl rfl rfl ?_
    refine rpk (e := false) rfl rfl rfl rfl rfl rfl ?_
    refine rmB rfl rfl rfl rfl rfl ?_
    refine rmI rfl rfl rfl rfl rfl ?_
    refine rmI rfl rfl rfl rfl rfl ?_
    refine rne rfl rfl rfl rfl rfl rfl (fun h => absurd h ((fun hh => hh rfl))) ?_
    intro h14_11
    refine rpk (e := false) rfl rfl rfl rfl rfl rfl ?_
    refine rNil ?_
    refine qSeq ?_
    refine wF rfl ?_
    refine wSkip ?_
    refine qSeq ?_
    refine wSeq ?_
    refine wRegion ?_
    refine raI rfl rfl rfl rfl rfl ?_
    refine rNil ?_
    refine qSeq ?_
    refine wSeq ?_
    refine wRegion ?_
    (apply rlr (vs := [.int _ _, .int _ _, _, _]) rfl rfl; (first | ((simp (disch := (first | omega | assumption)) only [↓appC, ↓updN, ↓updS, ↓app0, ↓hpS, ↓hpN]) <;> first | rfl | assumption) | ((simp (disch := (first | omega | (intro _ _; dsimp only; omega))) only [↓appC, ↓updN, ↓updS, ↓app0, ↓famAO]) <;> first | rfl | assumption) | assumption | rfl); rfl; rfl; (exact Nat.le_of_ble_eq_true rfl); rfl; rfl; rfl; rfl)
    refine rmI rfl rfl rfl rfl rfl ?_
    refine rop (o15p X (fun i => 1 + 5 + 4 * t.lk.length + 1 + 5 + 4 * t.lk.length + 1 + 2 + 5 + 5 * i + 2) Q 1 (by omega) hX1 hX2 hX3 (fun a b _ _ e => by (try dsimp only at e); omega) (lb := 1 + 5 + 4 * t.lk.length + 1 + 5 + 4 * t.lk.length + 1 + 2 + 5 * X.lk.length + 4) (sb := 1 + 5 + 4 * t.lk.length + 1 + 5 + 4 * t.lk.length + 1 + 5) (by omega) (by omega) (by omega) (fun i hi => by (try dsimp only); omega) (fun i hi => by (try dsimp only); omega) (fun i hi => by (try dsimp only); omega) (by (first | ((simp (disch := (first | omega | assumption)) only [↓appC, ↓updN, ↓updS, ↓app0, ↓hpS, ↓hpN]) <;> first | rfl | assumption) | ((simp (disch := (first | omega | (intro _ _; dsimp only; omega))) only [↓appC, ↓updN, ↓updS, ↓app0, ↓famAO]) <;> first | rfl | assumption) | assumption | rfl)) (fun i hi => by (try (simp (disch := (first | omega | (intro _ _; dsimp only; omega))) only [↓appC, ↓updN, ↓updS, ↓app0, ↓famAO])); exact famA (w := (fun i => 1 + 5 + 4 * t.lk.length + 1 + 5 + 4 * t.lk.length + 1 + 2 + 5 + 5 * i + 2)) (fun a b _ _ e => by (try dsimp only at e); omega) hi) (by (first | ((simp (disch := (first | omega | assumption)) only [↓appC, ↓updN, ↓updS, ↓app0, ↓hpS, ↓hpN]) <;> first | rfl | assumption) | ((simp (disch := (first | omega | (intro _ _; dsimp only; omega))) only [↓appC, ↓updN, ↓updS, ↓app0, ↓famAO]) <;> first | rfl | assumption) | assumption | rfl))) rfl rfl rfl rfl rfl rfl ?_
    refine raI rfl rfl rfl rfl rfl ?_
    refine rNil ?_
    refine qSeq ?_
    refine wSeq ?_
    refine wRegion ?_
    refine raI rfl rfl rfl rfl rfl ?_
    refine rNil ?_
    refine qSeq ?_
    refine wSeq ?_
    refine wRegion ?_
    (apply rlr (vs := [.int _ _, .int _ _, _, _]) rfl rfl; (first | ((simp (disch := (first | omega | assumption)) only [↓appC, ↓updN, ↓updS, ↓app0, ↓hpS, ↓hpN]) <;> first | rfl | assumption) | ((simp (disch := (first | omega | (intro _ _; dsimp only; omega))) only [↓appC, ↓updN, ↓updS, ↓app0, ↓famAO]) <;> first | rfl | assumption) | assumption | rfl); rfl; rfl; (exact Nat.le_of_ble_eq_true rfl); rfl; rfl; rfl; rfl)
    refine rmI rfl rfl rfl rfl rfl ?_
    apply rclS ([1 + 5 + 4 * t.lk.length + 1 + 5 + 4 * t.lk.length + 1 + 2 + 5 * X.lk.length + 4, 1 + 5 + 4 * t.lk.length + 1 + 5 + 4 * t.lk.length + 1 + 5] ++ (List.range X.lk.length).map (fun i => 1 + 5 + 4 * t.lk.length + 1 + 5 + 4 * t.lk.length + 1 + 2 + 5 + 5 * i + 2)) (s20 X.tm X.nx true true true X.lk X.sn.length 1 (by omega) hX1 hX2 hX3) rfl rfl rfl
    · exact (SnapL.cons _ _ _ _ (snapTbP (ids := ([1 + 5 + 4 * t.lk.length + 1 + 5 + 4 * t.lk.length + 1 + 2 + 5 * X.lk.length + 4, 1 + 5 + 4 * t.lk.length + 1 + 5 + 4 * t.lk.length + 1 + 5] ++ (List.range X.lk.length).map (fun i => 1 + 5 + 4 * t.lk.length + 1 + 5 + 4 * t.lk.length + 1 + 2 + 5 + 5 * i + 2))) (lb := 1 + 5 + 4 * t.lk.length + 1 + 5 + 4 * t.lk.length + 1 + 2 + 5 * X.lk.length + 4) (sb := 1 + 5 + 4 * t.lk.length + 1 + 5 + 4 * t.lk.length + 1 + 5) (m1 := X.lk.length) (m2 := X.sn.length) (w := (fun i => 1 + 5 + 4 * t.lk.length + 1 + 5 + 4 * t.lk.length + 1 + 2 + 5 + 5 * i + 2)) (P := Q) (t := ⟨X.tm, X.nx, ML 1 X.lk, MS (kL 1 X.lk) X.sn.length⟩) (List.mem_append_left _ List.mem_cons_self) (List.mem_append_left _ (List.mem_cons_of_mem _ List.mem_cons_self)) (fun i hi => List.mem_append_right _ (List.mem_map.2 ⟨i, List.mem_range.2 (hML i hi), rfl⟩)) (by (first | ((simp (disch := (first | omega | assumption)) only [↓appC, ↓updN, ↓updS, ↓app0, ↓hpS, ↓hpN]) <;> first | rfl | assumption) | ((simp (disch := (first | omega | (intro _ _; dsimp only; omega))) only [↓appC, ↓updN, ↓updS, ↓app0, ↓famAO]) <;> first | rfl | assumption) | assumption | rfl)) (fun i hi => by have hi2 := hML i hi; (try (simp (disch := (first | omega | (intro _ _; dsimp only; omega))) only [↓appC, ↓updN, ↓updS, ↓app0, ↓famAO])); exact famA (w := (fun i => 1 + 5 + 4 * t.lk.length + 1 + 5 + 4 * t.lk.length + 1 + 2 + 5 + 5 * i + 2)) (fun a b _ _ e => by (try dsimp only at e); omega) (hML i hi)) (by (first | ((simp (disch := (first | omega | assumption)) only [↓appC, ↓updN, ↓updS, ↓app0, ↓hpS, ↓hpN]) <;> first | rfl | assumption) | ((simp (disch := (first | omega | (intro _ _; dsimp only; omega))) only [↓appC, ↓updN, ↓updS, ↓app0, ↓famAO]) <;> first | rfl | assumption) | assumption | rfl)) (ML_len _ _).symm (MS_len _ _).symm) (SnapL.cons _ _ _ _ (.one _ _ (.int _ _)) SnapL.nil))
    · rfl
    · rfl
    · rfl
    refine raI rfl rfl rfl rfl rfl ?_
    refine rNil ?_
    refine qSeq ?_
    refine wSeq ?_
    refine wSeq ?_
    refine wRegion ?_
    refine rmI rfl rfl rfl rfl rfl ?_
    refine rlt rfl rfl rfl rfl rfl rfl (fun h => absurd h (by have := kL_bd (k := 1) (L := X.lk) hX2; omega)) ?_
    intro h20_1
    refine rNil ?_
    refine qSeq ?_
    refine wF rfl ?_
    refine wSkip ?_
    refine qSeq ?_
    refine wSeq ?_
    refine wSeq ?_
    refine wRegion ?_
    refine rmI rfl rfl rfl rfl rfl ?_
    refine rmI rfl rfl rfl rfl rfl ?_
    refine rne rfl rfl rfl rfl rfl rfl (fun h => absurd h ((fun hh => hh (by first | rfl | (simp; done) | (simp; omega) | omega)))) ?_
    intro h22_2
    refine rNil ?_
    refine qSeq ?_
    refine wF rfl ?_
    refine wSkip ?_
    refine qSeq ?_
    refine wSeq ?_
    refine wRegion ?_
    (apply rlr (vs := [.int _ _, .int _ _, _, _]) rfl rfl; (first | ((simp (disch := (first | omega | assumption)) only [↓appC, ↓updN, ↓updS, ↓app0, ↓hpS, ↓hpN]) <;> first | rfl | assumption) | ((simp (disch := (first | omega | (intro _ _; dsimp only; omega))) only [↓appC, ↓updN, ↓updS, ↓app0, ↓famAO]) <;> first | rfl | assumption) | assumption | rfl); rfl; rfl; (exact Nat.le_of_ble_eq_true rfl); rfl; rfl; rfl; rfl)
    refine rop (o11 t false n1 n2 hL hW hS) rfl rfl rfl rfl rfl rfl ?_
    refine rmI rfl rfl rfl rfl rfl ?_
    (apply rfs ([1 + 5 + 4 * t.lk.length + 1 + 5 + 4 * t.lk.length + 1 + 8 + 6 * X.lk.length + 1 + 1 + 1 + 3, 1 + 5 + 4 * t.lk.length + 1 + 5 + 4 * t.lk.length + 1 + 8 + 6 * X.lk.length + 1 + 1 + 1 + 3 + 1 + 4 * t.lk.length] ++ (List.range t.lk.length).map (fun i => 1 + 5 + 4 * t.lk.length + 1 + 5 + 4 * t.lk.length + 1 + 8 + 6 * X.lk.length + 1 + 1 + 1 + 3 + 1 + 4 * i + 3)) (hI _) rfl rfl rfl; (exact (SnapL.cons _ _ _ _ (snapTb (w := (fun i => 1 + 5 + 4 * t.lk.length + 1 + 5 + 4 * t.lk.length + 1 + 8 + 6 * X.lk.length + 1 + 1 + 1 + 3 + 1 + 4 * i + 3)) (List.mem_append_left _ List.mem_cons_self) (List.mem_append_left _ (List.mem_cons_of_mem _ List.mem_cons_self)) (fun i hi => List.mem_append_right _ (List.mem_map.2 ⟨i, List.mem_range.2 hi, rfl⟩)) (by (first | ((simp (disch := (first | omega | assumption)) only [↓appC, ↓updN, ↓updS, ↓app0, ↓hpS, ↓hpN]) <;> first | rfl | assumption) | ((simp (disch := (first | omega | (intro _ _; dsimp only; omega))) only [↓appC, ↓updN, ↓updS, ↓app0, ↓famAO]) <;> first | rfl | assumption) | assumption | rfl)) (fun i hi => by (try (simp (disch := (first | omega | (intro _ _; dsimp only; omega))) only [↓appC, ↓updN, ↓updS, ↓app0, ↓famAO])); exact famA (w := (fun i => 1 + 5 + 4 * t.lk.length + 1 + 5 + 4 * t.lk.length + 1 + 8 + 6 * X.lk.length + 1 + 1 + 1 + 3 + 1 + 4 * i + 3)) (fun a b _ _ e => by (try dsimp only at e); omega) hi) (by (first | ((simp (disch := (first | omega | assumption)) only [↓appC, ↓updN, ↓updS, ↓app0, ↓hpS, ↓hpN]) <;> first | rfl | assumption) | ((simp (disch := (first | omega | (intro _ _; dsimp only; omega))) only [↓appC, ↓updN, ↓updS, ↓app0, ↓famAO]) <;> first | rfl | assumption) | assumption | rfl)) rfl rfl) (SnapL.cons _ _ _ _ (.one _ _ (.int _ _)) SnapL.nil))); rfl; (exact flatTb hQ); exact List.cons_ne_nil _ _; rfl; rfl; rfl)
    refine rmT rfl rfl rfl rfl rfl ?_
    refine rex rfl rfl rfl rfl rfl rfl ?_
    refine rex rfl rfl rfl rfl rfl rfl ?_
    refine ral rfl rfl rfl rfl rfl rfl ?_
    (apply rst (u := .agg [.int _ _, .int _ _, _, _]) rfl rfl rfl; (first | ((simp (disch := (first | omega | assumption)) only [↓appC, ↓updN, ↓updS, ↓app0, ↓hpS, ↓hpN]) <;> first | rfl | assumption) | ((simp (disch := (first | omega | (intro _ _; dsimp only; omega))) only [↓appC, ↓updN, ↓updS, ↓app0, ↓famAO]) <;> first | rfl | assumption) | assumption | rfl); rfl; rfl; rfl; rfl; rfl; (exact Nat.le_of_ble_eq_true rfl); rfl; rfl; rfl)
    refine raI rfl rfl rfl rfl rfl ?_
    refine rNil ?_
    refine qSeq ?_
    refine wSeq ?_
    refine wSeq ?_
    refine wRegion ?_
    (apply rlr (vs := [.int _ _, .int _ _, _, _]) rfl rfl; (first | ((simp (disch := (first | omega | assumption)) only [↓appC, ↓updN, ↓updS, ↓app0, ↓hpS, ↓hpN]) <;> first | rfl | assumption) | ((simp (disch := (first | omega | (intro _ _; dsimp only; omega))) only [↓appC, ↓updN, ↓updS, ↓app0, ↓famAO]) <;> first | rfl | assumption) | assumption | rfl); rfl; rfl; (exact Nat.le_of_ble_eq_true rfl); rfl; rfl; rfl; rfl)
    (apply rlr (vs := [.int _ _, .int _ _, _, _]) rfl rfl; (first | ((simp (disch := (first | omega | assumption)) only [↓appC, ↓updN, ↓updS, ↓app0, ↓hpS, ↓hpN]) <;> first | rfl | assumption) | ((simp (disch := (first | omega | (intro _ _; dsimp only; omega))) only [↓appC, ↓updN, ↓updS, ↓app0, ↓famAO]) <;> first | rfl | assumption) | assumption | rfl); rfl; rfl; (exact Nat.le_of_ble_eq_true rfl); rfl; rfl; rfl; rfl)
    apply rclS ([1 + 5 + 4 * t.lk.length + 1 + 5 + 4 * t.lk.length + 1 + 8 + 6 * X.lk.length + 1 + 1 + 1 + 5 + 4 * t.lk.length + 2 + 5 * X.lk.length + 4, 1 + 5 + 4 * t.lk.length + 1 + 5 + 4 * t.lk.length + 1 + 8 + 6 * X.lk.length + 1 + 1 + 1 + 5 + 4 * t.lk.length + 5] ++ (List.range X.lk.length).map (fun i => 1 + 5 + 4 * t.lk.length + 1 + 5 + 4 * t.lk.length + 1 + 8 + 6 * X.lk.length + 1 + 1 + 1 + 5 + 4 * t.lk.length + 2 + 5 + 5 * i + 2)) (s14 X true true true true false false hX1 hX2 hX3) rfl rfl rfl
    · exact (SnapL.cons _ _ _ _ (snapTbP (w := (fun i => 1 + 5 + 4 * t.lk.length + 1 + 5 + 4 * t.lk.length + 1 + 8 + 6 * X.lk.length + 1 + 1 + 1 + 5 + 4 * t.lk.length + 2 + 5 + 5 * i + 2)) (P := Q) (t := X) (List.mem_append_left _ List.mem_cons_self) (List.mem_append_left _ (List.mem_cons_of_mem _ List.mem_cons_self)) (fun i hi => List.mem_append_right _ (List.mem_map.2 ⟨i, List.mem_range.2 hi, rfl⟩)) (by (first | ((simp (disch := (first | omega | assumption)) only [↓appC, ↓updN, ↓updS, ↓app0, ↓hpS, ↓hpN]) <;> first | rfl | assumption) | ((simp (disch := (first | omega | (intro _ _; dsimp only; omega))) only [↓appC, ↓updN, ↓updS, ↓app0, ↓famAO]) <;> first | rfl | assumption) | assumption | rfl)) (fun i hi => by (try (simp (disch := (first | omega | (intro _ _; dsimp only; omega))) only [↓appC, ↓updN, ↓updS, ↓app0, ↓famAO])); exact famA (w := (fun i => 1 + 5 + 4 * t.lk.length + 1 + 5 + 4 * t.lk.length + 1 + 8 + 6 * X.lk.length + 1 + 1 + 1 + 5 + 4 * t.lk.length + 2 + 5 + 5 * i + 2)) (fun a b _ _ e => by (try dsimp only at e); omega) hi) (by (first | ((simp (disch := (first | omega | assumption)) only [↓appC, ↓updN, ↓updS, ↓app0, ↓hpS, ↓hpN]) <;> first | rfl | assumption) | ((simp (disch := (first | omega | (intro _ _; dsimp only; omega))) only [↓appC, ↓updN, ↓updS, ↓app0, ↓famAO]) <;> first | rfl | assumption) | assumption | rfl)) rfl rfl) (SnapL.cons _ _ _ _ (SnapC.agg (.cons _ _ _ _ (.int _ _) (.cons _ _ _ _ (.int _ _) (.cons _ _ _ _ (.sl _ _ _ (fun h => by cases h)) (.cons _ _ _ _ (.sl _ _ _ (fun h => by cases h)) .nil))))) SnapL.nil))
    · rfl
    · rfl
    · rfl
    refine rnot (c := true) rfl rfl rfl rfl rfl ?_
    refine rmB rfl rfl rfl rfl rfl ?_
    refine rmI rfl rfl rfl rfl rfl ?_
    refine rmI rfl rfl rfl rfl rfl ?_
    refine rne rfl rfl rfl rfl rfl rfl (fun h => absurd h ((fun hh => hh rfl))) ?_
    intro h25_7
    refine rpk (e := false) rfl rfl rfl rfl rfl rfl ?_
    refine rNil ?_
    refine qSeq ?_
    refine wF rfl ?_
    refine wSkip ?_
    refine qSeq ?_
    refine wSeq ?_
    refine wRegion ?_
    refine raI rfl rfl rfl rfl rfl ?_
    refine rNil ?_
    refine qSeq ?_
    refine wSeq ?_
    refine wRegion ?_
    (apply rlr (vs := [.int _ _, .int _ _, _, _]) rfl rfl; (first | ((simp (disch := (first | omega | assumption)) only [↓appC, ↓updN, ↓updS, ↓app0, ↓hpS, ↓hpN]) <;> first | rfl | assumption) | ((simp (disch := (first | omega | (intro _ _; dsimp only; omega))) only [↓appC, ↓updN, ↓updS, ↓app0, ↓famAO]) <;> first | rfl | assumption) | assumption | rfl); rfl; rfl; (exact Nat.le_of_ble_eq_true rfl); rfl; rfl; rfl; rfl)
    refine rmI rfl rfl rfl rfl rfl ?_
    apply rclS ([1 + 5 + 4 * t.lk.length + 1 + 5 + 4 * t.lk.length + 1 + 2 + 5 * X.lk.length + 4, 1 + 5 + 4 * t.lk.length + 1 + 5 + 4 * t.lk.length + 1 + 5] ++ (List.range X.lk.length).map (fun i => 1 + 5 + 4 * t.lk.length + 1 + 5 + 4 * t.lk.length + 1 + 2 + 5 + 5 * i + 2)) (s20 X.tm X.nx true true true X.lk X.sn.length 1 (by omega) hX1 hX2 hX3) rfl rfl rfl
    · exact (SnapL.cons _ _ _ _ (snapTbP (ids := ([1 + 5 + 4 * t.lk.length + 1 + 5 + 4 * t.lk.length + 1 + 2 + 5 * X.lk.length + 4, 1 + 5 + 4 * t.lk.length + 1 + 5 + 4 * t.lk.length + 1 + 5] ++ (List.range X.lk.length).map (fun i => 1 + 5 + 4 * t.lk.length + 1 + 5 + 4 * t.lk.length + 1 + 2 + 5 + 5 * i + 2))) (lb := 1 + 5 + 4 * t.lk.length + 1 + 5 + 4 * t.lk.length + 1 + 2 + 5 * X.lk.length + 4) (sb := 1 + 5 + 4 * t.lk.length + 1 + 5 + 4 * t.lk.length + 1 + 5) (m1 := X.lk.length) (m2 := X.sn.length) (w := (fun i => 1 + 5 + 4 * t.lk.length + 1 + 5 + 4 * t.lk.length + 1 + 2 + 5 + 5 * i + 2)) (P := Q) (t := ⟨X.tm, X.nx, ML 1 X.lk, MS (kL 1 X.lk) X.sn.length⟩) (List.mem_append_left _ List.mem_cons_self) (List.mem_append_left _ (List.mem_cons_of_mem _ List.mem_cons_self)) (fun i hi => List.mem_append_right _ (List.mem_map.2 ⟨i, List.mem_range.2 (hML i hi), rfl⟩)) (by (first | ((simp (disch := (first | omega | assumption)) only [↓appC, ↓updN, ↓updS, ↓app0, ↓hpS, ↓hpN]) <;> first | rfl | assumption) | ((simp (disch := (first | omega | (intro _ _; dsimp only; omega))) only [↓appC, ↓updN, ↓updS, ↓app0, ↓famAO]) <;> first | rfl | assumption) | assumption | rfl)) (fun i hi => by have hi2 := hML i hi; (try (simp (disch := (first | omega | (intro _ _; dsimp only; omega))) only [↓appC, ↓updN, ↓updS, ↓app0, ↓famAO])); exact famA (w := (fun i => 1 + 5 + 4 * t.lk.length + 1 + 5 + 4 * t.lk.length + 1 + 2 + 5 + 5 * i + 2)) (fun a b _ _ e => by (try dsimp only at e); omega) (hML i hi)) (by (first | ((simp (disch := (first | omega | assumption)) only [↓appC, ↓updN, ↓updS, ↓app0, ↓hpS, ↓hpN]) <;> first | rfl | assumption) | ((simp (disch := (first | omega | (intro _ _; dsimp only; omega))) only [↓appC, ↓updN, ↓updS, ↓app0, ↓famAO]) <;> first | rfl | assumption) | assumption | rfl)) (ML_len _ _).symm (MS_len _ _).symm) (SnapL.cons _ _ _ _ (.one _ _ (.int _ _)) SnapL.nil))
    · rfl
    · rfl
    · rfl
    refine raI rfl rfl rfl rfl rfl ?_
    refine rNil ?_
    refine qSeq ?_
    refine wSeq ?_
    refine wSeq ?_
    refine wRegion ?_
    refine rmI rfl rfl rfl rfl rfl ?_
    refine rlt rfl rfl rfl rfl rfl rfl (fun h => absurd h (by have := kL_bd (k := 1) (L := X.lk) hX2; omega)) ?_
    intro h29_1
    refine rNil ?_
    refine qSeq ?_
    refine wF rfl ?_
    refine wSkip ?_
    refine qSeq ?_
    refine wSeq ?_
    refine wSeq ?_
    refine wRegion ?_
    refine rmI rfl rfl rfl rfl rfl ?_
    refine rmI rfl rfl rfl rfl rfl ?_
    refine rne rfl rfl rfl rfl rfl rfl (fun h => absurd h ((fun hh => hh (by first | rfl | (simp; done) | (simp; omega) | omega)))) ?_
    intro h31_2
    refine rNil ?_
    refine qSeq ?_
    refine wF rfl ?_
    refine wSkip ?_
    refine qSeq ?_
    refine wSeq ?_
    refine wRegion ?_
    refine raB rfl rfl rfl rfl rfl ?_
    refine rNil ?_
    refine qSeq ?_
    refine wRet ?_
    exact fin rfl rfl
end Go.Proofs.Ytknnniaoboaghaa
