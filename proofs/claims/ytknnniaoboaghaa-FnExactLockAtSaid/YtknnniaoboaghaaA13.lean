import Derived.Test.YtknnniaoboaghaaA12
namespace Go.Proofs.Ytknnniaoboaghaa
open Go.V
set_option linter.unusedVariables false
set_option linter.unusedSimpArgs false
set_option maxRecDepth 20000
set_option maxHeartbeats 4000000

/-! FnExactLockAt: the walk, for all that comes in. -/
theorem lawZ (t : Tb) (s : ByteArray) (n1 n2 : Bool) (hb : ¬ (t.lk.length ≤ 1048576 ∧ (∀ i, i < t.lk.length → (t.lk.getD i Lk0).ws.length ≤ 1048576) ∧ t.sn.length ≤ 1048576)) (hm : t.lk.length ≤ 9223372036854775807) (hz : ∀ i, i < t.lk.length → (t.lk.getD i Lk0).nm.size ≤ 9223372036854775807 ∧ (t.lk.getD i Lk0).ws.length ≤ 9223372036854775807) (ha : t.sn.length ≤ 9223372036854775807) (hsz : s.size ≤ 9223372036854775807) :
    Pure En 3 [.agg (t.T false n1 n2), .one (.str s)] [.one (.bool true)] := by
  refine Pure.of_wp Try.func3 rfl (Nat.le_of_ble_eq_true rfl) ?_
  refine wSeq ?_
  refine wRegion ?_
  refine rbx (u := .agg [.int _ _, .int _ _, _, _]) rfl rfl rfl rfl rfl rfl rfl ?_
  refine raB rfl rfl rfl rfl rfl ?_
  refine rNil ?_
  refine qSeq ?_
  refine wSeq ?_
  refine wSeq ?_
  refine wRegion ?_
  refine rmS rfl rfl rfl rfl rfl ?_
  refine rls rfl rfl rfl rfl rfl rfl ?_
  refine rgt rfl rfl rfl rfl rfl rfl ?_ ?_ <;> intro h1_2
  · refine rNil ?_
    refine qSeq ?_
    refine wT rfl ?_
    refine wSeq ?_
    refine wRegion ?_
    refine raB rfl rfl rfl rfl rfl ?_
    refine rNil ?_
    refine qSeq ?_
    refine wRet ?_
    refine qSeqR ?_
    exact fin rfl rfl
  · refine rNil ?_
    refine qSeq ?_
    refine wF rfl ?_
    refine wSkip ?_
    refine qSeq ?_
    refine wSeq ?_
    refine wRegion ?_
    refine raI rfl rfl rfl rfl rfl ?_
    refine rNil ?_
    refine qSeq ?_
    refine wSeq ?_
    refine wRegion ?_
    (apply rlr (vs := [.int _ _, .int _ _, _, _]) rfl rfl; (first | ((simp (disch := omega) only [↓app0, ↓appC, ↓updS, ↓updN, ↓hpS, ↓hpN]) <;> first | rfl | assumption) | assumption | rfl); rfl; rfl; (exact Nat.le_of_ble_eq_true rfl); rfl; rfl; rfl; rfl)
    refine rmI rfl rfl rfl rfl rfl ?_
    refine rclX (s9 n1 n2 false t 1048576 (by omega) hm hz ha) rfl rfl rfl rfl rfl rfl ?_
    rintro x h4_2
    try dsimp only at h4_2
    refine raI rfl rfl rfl rfl rfl ?_
    refine rNil ?_
    refine qSeq ?_
    refine wSeq ?_
    refine wSeq ?_
    refine wRegion ?_
    refine rmI rfl rfl rfl rfl rfl ?_
    refine rlt rfl rfl rfl rfl rfl rfl ?_ ?_ <;> intro h5_1
    · refine rNil ?_
      refine qSeq ?_
      refine wT rfl ?_
      refine wSeq ?_
      refine wRegion ?_
      refine raB rfl rfl rfl rfl rfl ?_
      refine rNil ?_
      refine qSeq ?_
      refine wRet ?_
      refine qSeqR ?_
      exact fin rfl rfl
    · refine rNil ?_
      refine qSeq ?_
      refine wF rfl ?_
      refine wSkip ?_
      refine qSeq ?_
      refine wSeq ?_
      exact absurd ⟨by have := (h4_2.2 (by omega)).1; omega, fun i hi => by have := (h4_2.2 (by omega)).2.1 i hi; omega, by have := (h4_2.2 (by omega)).2.2; omega⟩ hb
/-- The law's walk. -/
theorem lawAll (t : Tb) (s : ByteArray) (n1 n2 : Bool) (hm : t.lk.length ≤ 9223372036854775807) (hz : ∀ i, i < t.lk.length → (t.lk.getD i Lk0).nm.size ≤ 9223372036854775807 ∧ (t.lk.getD i Lk0).ws.length ≤ 9223372036854775807) (ha : t.sn.length ≤ 9223372036854775807) (hsz : s.size ≤ 9223372036854775807) :
    Pure En 3 [.agg (t.T false n1 n2), .one (.str s)] [.one (.bool true)] := by
  by_cases hb : t.lk.length ≤ 1048576 ∧ (∀ i, i < t.lk.length → (t.lk.getD i Lk0).ws.length ≤ 1048576) ∧ t.sn.length ≤ 1048576
  rotate_left
  · exact lawZ t s n1 n2 hb hm hz ha hsz
  obtain ⟨hL, hW, hS⟩ := hb
  by_cases hs : s.size > 65536
  · exact lawN t s n1 n2 (fun h => absurd hs h) (by rw [lAt_long hs]) hL hW hS hm hz ha hsz
  by_cases hok : t.OK
  rotate_left
  · exact lawN t s n1 n2 (fun _ h => absurd h hok) (by rw [lAt_bad hs hok]) hL hW hS hm hz ha hsz
  by_cases hh : hit s t.lk
  · refine lawF t s n1 n2 hs hok hh hL hW hS ?_ hm hz ha hsz
    rw [lAt_hit hs hok hh]
    have := OKw hok hh.1
    dsimp only
    omega
  · exact lawN t s n1 n2 (fun _ _ => hh) (by rw [lAt_none hs hok hh]) hL hW hS hm hz ha hsz
end Go.Proofs.Ytknnniaoboaghaa
