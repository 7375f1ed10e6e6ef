import Derived.Test.YtcafccndgpopkaaDoorT17
namespace Go.Proofs.YtcafccndgpopkaaDoor
open Go.V
set_option linter.unusedVariables false
set_option linter.unusedSimpArgs false
set_option maxRecDepth 20000
set_option maxHeartbeats 4000000

/-! FnExactClientTake: the walk, for all that comes in. -/
theorem lawZ (n0 : Int) (c : Cl) (r : Rp) (n1 n2 : Bool) (hz : ¬ (c.rps.length ≤ 1048576 ∧ c.acc.length ≤ 1048576)) (hq : c.rq.nm.size ≤ 9223372036854775807) (hm : c.rps.length ≤ 9223372036854775807) (hs : ∀ i, i < c.rps.length → (c.rps.getD i Rp0).mac.size ≤ 9223372036854775807) (ha : c.acc.length ≤ 9223372036854775807) (hr : r.mac.size ≤ 9223372036854775807) :
    Pure En 3 [.one (.int .i64 n0), .agg (c.T n1 n2), .agg r.T] [.one (.bool true)] := by
  refine Pure.of_wp Tryd.func3 rfl (Nat.le_of_ble_eq_true rfl) ?_
  refine wSeq ?_
  refine wRegion ?_
  refine rbx (u := .agg [.int _ _, .int _ _, .bool _, .int _ _, .int _ _, .int _ _, .int _ _, .str _, _, _]) rfl rfl rfl rfl rfl rfl rfl ?_
  refine rbx (u := .agg [.int _ _, .int _ _, .int _ _, .int _ _, .int _ _, .int _ _, .int _ _, .str _]) rfl rfl rfl rfl rfl rfl rfl ?_
  refine raB rfl rfl rfl rfl rfl ?_
  refine rNil ?_
  refine qSeq ?_
  refine wSeq ?_
  refine wRegion ?_
  refine raI rfl rfl rfl rfl rfl ?_
  refine rNil ?_
  refine qSeq ?_
  refine wSeq ?_
  refine wRegion ?_
  (apply rlr (vs := [.int _ _, .int _ _, .bool _, .int _ _, .int _ _, .int _ _, .int _ _, .str _, _, _]) rfl rfl; (first | ((simp (disch := omega) only [↓app0, ↓appC, ↓updS, ↓updN, ↓hpS, ↓hpN]) <;> first | rfl | assumption) | assumption | rfl); rfl; rfl; (exact Nat.le_of_ble_eq_true rfl); rfl; rfl; rfl; rfl)
  refine rmI rfl rfl rfl rfl rfl ?_
  refine rclX (s6 n1 n2 c 1048576 (by omega) hq hm hs ha) rfl rfl rfl rfl rfl rfl ?_
  rintro x h2_2
  try dsimp only at h2_2
  refine raI rfl rfl rfl rfl rfl ?_
  refine rNil ?_
  refine qSeq ?_
  refine wSeq ?_
  refine wSeq ?_
  refine wRegion ?_
  refine rmI rfl rfl rfl rfl rfl ?_
  refine rlt rfl rfl rfl rfl rfl rfl ?_ ?_ <;> intro h3_1
  · refine rNil ?_
    refine qSeq ?_
    refine wT rfl ?_
    refine wSeq ?_
    refine wRegion ?_
    refine raB rfl rfl rfl rfl rfl ?_
    refine rNil ?_
    refine qSeq ?_
    refine wRet ?_
    refine qSeqR ?_
    exact fin rfl rfl
  · refine rNil ?_
    refine qSeq ?_
    refine wF rfl ?_
    refine wSkip ?_
    refine qSeq ?_
    refine wSeq ?_
    exact absurd (h2_2.2 (by omega)) (by omega)
/-- The law's walk. -/
theorem lawAll (n0 : Int) (c : Cl) (r : Rp) (n1 n2 : Bool) (hq : c.rq.nm.size ≤ 9223372036854775807) (hm : c.rps.length ≤ 9223372036854775807) (hs : ∀ i, i < c.rps.length → (c.rps.getD i Rp0).mac.size ≤ 9223372036854775807) (ha : c.acc.length ≤ 9223372036854775807) (hr : r.mac.size ≤ 9223372036854775807) :
    Pure En 3 [.one (.int .i64 n0), .agg (c.T n1 n2), .agg r.T] [.one (.bool true)] := by
  by_cases hz : c.rps.length ≤ 1048576 ∧ c.acc.length ≤ 1048576
  rotate_left
  · exact lawZ n0 c r n1 n2 hz hq hm hs ha hr
  obtain ⟨hL2, hL⟩ := hz
  by_cases hc : c.OK n0
  rotate_left
  · exact lawB n0 c r n1 n2 Cl0 1 (Nat.zero_le _) (Nat.zero_le _) rfl rfl hq hm hs ha hr (s8bad n0 c r true true hL hL2 hc) (fun n => o11bad n0 c r hL hc)
  have err : ∀ code, tkErr n0 c r code → Pure En 3 [.one (.int .i64 n0), .agg (c.T n1 n2), .agg r.T] [.one (.bool true)] := fun code h =>
    lawE n0 c r n1 n2 c code (by omega) (by omega) hq hm hs ha hr (s8err n0 c r true true hL hL2 code hc h) (fun n => o11err n0 c r code hL hL2 hc h)
  by_cases hr1 : r.OK n0
  rotate_left
  · exact err 12 (.inl ⟨hr1, rfl⟩)
  by_cases hb : c.bz = true ∧ r.cl = c.id ∧ r.st = c.st
  rotate_left
  · refine err 16 (.inr (.inl ⟨hr1, ?_, rfl⟩))
    by_cases h1 : c.bz = false
    · exact .inl h1
    · have h1 : c.bz = true := by simpa using h1
      by_cases h2 : r.cl = c.id
      · exact .inr (.inr fun h3 => hb ⟨h1, h2, h3⟩)
      · exact .inr (.inl h2)
  obtain ⟨hb1, hb2, hb3⟩ := hb
  by_cases h40 : c.rps.length = 40
  · exact err 7 (.inr (.inr ⟨hr1, hb1, hb2, hb3, h40, rfl⟩))
  have hl : c.rps.length < 40 := by
    rcases hc.2.2.2.2 with ⟨v, _⟩ | ⟨_, _, _, v, _⟩
    · rw [v] at hb1; cases hb1
    · omega
  have hlc : c.rps.length + 1 = (c.rps ++ [r]).length := by simp
  cases hd : dec n0 c.id c.st (c.rps ++ [r]) with
  | none =>
    refine lawU n0 c r n1 n2 ⟨c.id, c.st, c.bz, c.rq, c.rps ++ [r], c.acc⟩ 0 (by simp; omega) (by dsimp only; omega) hq hm hs ha hr (s8u n0 c r true true hL hL2 hc hb1 ⟨hr1, hb2, hb3⟩ hl hd) (fun n => ?_)
    have h := o11u n0 c r hL hL2 hc hb1 ⟨hr1, hb2, hb3⟩ hl hd (h := fun _ => none) (n := n)
    rw [hlc] at h
    exact h
  | some a =>
    have hla : c.acc.length + 1 = (c.acc ++ [a]).length := by simp
    refine lawD n0 c r n1 n2 ⟨c.id, c.st, false, Rq0, [], c.acc ++ [a]⟩ 0 (by simp) (by simp; omega) rfl hq hm hs ha hr (s8d n0 c r true true hL hL2 hc hb1 ⟨hr1, hb2, hb3⟩ hl hd) (fun n => ?_)
    have h := o11d n0 c r hL hL2 hc hb1 ⟨hr1, hb2, hb3⟩ hl hd (h := fun _ => none) (n := n)
    rw [hla] at h
    exact h
end Go.Proofs.YtcafccndgpopkaaDoor
