import Derived.Test.YtknnniaoboaghaaA22
import Derived.Test.YtknnniaoboaghaaA21
namespace Go.Proofs.Ytknnniaoboaghaa
open Go.V
set_option linter.unusedVariables false
set_option linter.unusedSimpArgs false
set_option maxRecDepth 20000
set_option maxHeartbeats 4000000

/-! FnExactExpireLocks: the walk, for all that comes in. -/
theorem exF_len {tm nx : Int} {l : Lk} : (exF tm nx l).ws.length ≤ l.ws.length := by
  unfold exF
  split
  · cases l.ws with
    | nil => exact Nat.le_refl _
    | cons a r => exact Nat.le_succ _
  · exact Nat.le_refl _
theorem exP_flat {tm : Int} {l : Lk} : ∀ e ∈ exP tm l, ∀ x ∈ e, x.flat = true := fun e he x hx => by
  unfold exP at he
  split at he
  · obtain ⟨a, _, rfl⟩ := List.mem_map.1 he
    simp only [wtV, List.mem_cons, List.not_mem_nil, or_false] at hx
    rcases hx with rfl | rfl <;> rfl
  · exact absurd he List.not_mem_nil
theorem expZ0 (t : Tb) (now : Int) (n1 n2 : Bool) (hb : ¬ (t.lk.length ≤ 1048576 ∧ (∀ i, i < t.lk.length → (t.lk.getD i Lk0).ws.length ≤ 1048576) ∧ t.sn.length ≤ 1048576)) (hm : t.lk.length ≤ 9223372036854775807) (hz : ∀ i, i < t.lk.length → (t.lk.getD i Lk0).nm.size ≤ 9223372036854775807 ∧ (t.lk.getD i Lk0).ws.length ≤ 9223372036854775807) (ha : t.sn.length ≤ 9223372036854775807) :
    Pure En 4 [.agg (t.T false n1 n2), .one (.int .i64 now)] [.one (.bool true)] := by
  refine Pure.of_wp Try.func4 rfl (Nat.le_of_ble_eq_true rfl) ?_
  refine wSeq ?_
  refine wRegion ?_
  refine rbx (u := .agg [.int _ _, .int _ _, _, _]) rfl rfl rfl rfl rfl rfl rfl ?_
  refine raB rfl rfl rfl rfl rfl ?_
  refine rNil ?_
  refine qSeq ?_
  refine wSeq ?_
  refine wRegion ?_
  refine raI rfl rfl rfl rfl rfl ?_
  refine rNil ?_
  refine qSeq ?_
  refine wSeq ?_
  refine wRegion ?_
  (apply rlr (vs := [.int _ _, .int _ _, _, _]) rfl rfl; (first | ((simp (disch := omega) only [↓app0, ↓appC, ↓updS, ↓updN, ↓hpS, ↓hpN]) <;> first | rfl | assumption) | assumption | rfl); rfl; rfl; (exact Nat.le_of_ble_eq_true rfl); rfl; rfl; rfl; rfl)
  refine rmI rfl rfl rfl rfl rfl ?_
  refine rclX (s9 n1 n2 false t 1048576 (by omega) hm hz ha) rfl rfl rfl rfl rfl rfl ?_
  rintro x h2_2
  try dsimp only at h2_2
  refine raI rfl rfl rfl rfl rfl ?_
  refine rNil ?_
  refine qSeq ?_
  refine wSeq ?_
  refine wSeq ?_
  refine wRegion ?_
  refine rmI rfl rfl rfl rfl rfl ?_
  refine rlt rfl rfl rfl rfl rfl rfl ?_ ?_ <;> intro h3_1
  · refine rNil ?_
    refine qSeq ?_
    refine wT rfl ?_
    refine wSeq ?_
    refine wRegion ?_
    refine raB rfl rfl rfl rfl rfl ?_
    refine rNil ?_
    refine qSeq ?_
    refine wRet ?_
    refine qSeqR ?_
    exact fin rfl rfl
  · refine rNil ?_
    refine qSeq ?_
    refine wF rfl ?_
    refine wSkip ?_
    refine qSeq ?_
    refine wSeq ?_
    exact absurd ⟨by have := (h2_2.2 (by omega)).1; omega, fun i hi => by have := (h2_2.2 (by omega)).2.1 i hi; omega, by have := (h2_2.2 (by omega)).2.2; omega⟩ hb
/-- The law's walk. -/
theorem expAll (t : Tb) (now : Int) (n1 n2 : Bool) (hm : t.lk.length ≤ 9223372036854775807) (hz : ∀ i, i < t.lk.length → (t.lk.getD i Lk0).nm.size ≤ 9223372036854775807 ∧ (t.lk.getD i Lk0).ws.length ≤ 9223372036854775807) (ha : t.sn.length ≤ 9223372036854775807) :
    Pure En 4 [.agg (t.T false n1 n2), .one (.int .i64 now)] [.one (.bool true)] := by
  by_cases hb : t.lk.length ≤ 1048576 ∧ (∀ i, i < t.lk.length → (t.lk.getD i Lk0).ws.length ≤ 1048576) ∧ t.sn.length ≤ 1048576
  rotate_left
  · exact expZ0 t now n1 n2 hb hm hz ha
  obtain ⟨hL, hW, hS⟩ := hb
  have h18 := s18 t now
  by_cases he : t.OK ∧ (0 ≤ now ∧ now ≤ 1000000000)
  rotate_left
  · have e : (exA t now).1 = T0 := by
      by_cases h : t.OK
      · rw [exA_rng h (fun h2 => he ⟨h, h2⟩)]
      · rw [exA_bad h]
    rw [e] at h18
    exact expE t now n1 n2 0 0 (exA t now).2 hL hW hS hm hz ha h18 (fun n => o19e t now he)
  obtain ⟨hok, hr⟩ := he
  rcases Nat.eq_zero_or_pos t.lk.length with h0 | hne
  · obtain ⟨tm, nx, lk, sn⟩ := t
    obtain rfl : lk = [] := List.length_eq_zero_iff.1 h0
    have e : (exA ⟨tm, nx, [], sn⟩ now).1 = ⟨(exA ⟨tm, nx, [], sn⟩ now).1.tm, (exA ⟨tm, nx, [], sn⟩ now).1.nx, [], sn⟩ := by
      by_cases hu : nx > 999000
      · rw [exA_used hok hr hu]
      · rw [exA_go hok hr hu]; rfl
    rw [e] at h18
    exact expZ ⟨tm, nx, [], sn⟩ now n1 n2 _ _ (exA ⟨tm, nx, [], sn⟩ now).2 sn (Nat.le_succ_of_le hS) hL hW hS hm hz ha h18 (fun n => o19z tm nx sn now hok hr hS)
  by_cases hu : t.nx > 999000
  · rw [exA_used hok hr hu] at h18
    exact expV t now n1 n2 t 13 P0 (fun i e he => absurd he List.not_mem_nil) (Nat.le_succ_of_le hL) (fun i hi => Nat.le_succ_of_le (hW i hi)) (Nat.le_succ_of_le hS) hL hW hS hm hz ha h18 (fun n => o19u t now hok hr hu hne)
  · rw [exA_go hok hr hu] at h18
    have e := exL_len (max t.tm now) t.nx t.lk
    refine expV t now n1 n2 (exT t now) 0 (fun i => exP (max t.tm now) (t.lk.getD i Lk0)) (fun i => exP_flat) (by show (exL (max t.tm now) t.nx t.lk).length ≤ _; rw [e]; omega) (fun i hi => ?_) (Nat.le_succ_of_le hS) hL hW hS hm hz ha h18 (fun n => ?_)
    · have hi : i < (exL (max t.tm now) t.nx t.lk).length := hi
      rw [e] at hi
      show ((exL (max t.tm now) t.nx t.lk).getD i Lk0).ws.length ≤ _
      rw [exL_get hi]
      have := hW i hi
      have := exF_len (tm := max t.tm now) (nx := nxL (max t.tm now) t.nx (t.lk.take i)) (l := t.lk.getD i Lk0)
      omega
    · have h := o19g t now hok hr hu hne (n := n)
      show V.Open En 19 _ _ n (.tup [.agg [.int .i64 (exT t now).tm, .int .i64 (exT t now).nx, .view (n + 2 + 5 * (exL (max t.tm now) t.nx t.lk).length + 4) 0 (exL (max t.tm now) t.nx t.lk).length, .view (n + 5) 0 t.sn.length], .int .i64 0])
        ([(n + 5, some ⟨t.sn.map Sn.V, 6, 115⟩), (n + 2 + 5 * (exL (max t.tm now) t.nx t.lk).length + 4, some ⟨lkP (fun i => n + 2 + 5 + 5 * i + 2) (fun i => exP (max t.tm now) (t.lk.getD i Lk0)) (exL (max t.tm now) t.nx t.lk), 5, 29⟩)] ++ famL (fun i => n + 2 + 5 + 5 * i + 2) (wsP (fun i => exP (max t.tm now) (t.lk.getD i Lk0)) (exL (max t.tm now) t.nx t.lk)) (exL (max t.tm now) t.nx t.lk).length) (n + 8 + 6 * (exL (max t.tm now) t.nx t.lk).length)
      rw [e]
      exact h
end Go.Proofs.Ytknnniaoboaghaa
