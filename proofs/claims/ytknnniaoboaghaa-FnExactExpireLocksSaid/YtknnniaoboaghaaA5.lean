import Derived.Test.YtknnniaoboaghaaA4
namespace Go.Proofs.Ytknnniaoboaghaa
open Go.V
set_option linter.unusedVariables false
set_option linter.unusedSimpArgs false
set_option maxRecDepth 20000
set_option maxHeartbeats 4000000

/-! The law's own: a table's size. -/
/-- What is left of a room. -/
def szv (k : Int) (m : Nat) : Int := if k - m < 0 then -1 else k - m
theorem szv_neg {k : Int} {m : Nat} (h : k - (m : Int) < 0) : szv k m = -1 := if_pos h
theorem szv_pos {k : Int} {m : Nat} (h : ¬ k - (m : Int) < 0) : szv k m = k - m := if_neg h
theorem szv_le {k : Int} {m : Nat} (hk : 0 ≤ k) : -1 ≤ szv k m ∧ szv k m ≤ k := by unfold szv; split <;> omega
theorem s118 (nn : Bool) (L : List Wt) (k : Int) (hk : 0 ≤ k ∧ k ≤ 1048576) (hm : L.length ≤ 9223372036854775807) : Pure En 118 [.one (.sl nn (L.map wtT)), .one (.int .i64 k)] [.one (.int .i64 (szv k L.length))] := by
  have hl : (L.map wtT).length = L.length := List.length_map ..
  refine Pure.of_wp Try.func118 rfl (Nat.le_of_ble_eq_true rfl) ?_
  refine wSeq ?_
  refine wRegion ?_
  refine raI rfl rfl rfl rfl rfl ?_
  refine rNil ?_
  refine qSeq ?_
  refine wSeq ?_
  refine wRegion ?_
  refine rmI rfl rfl rfl rfl rfl ?_
  refine rmL rfl rfl rfl rfl rfl ?_
  refine rll rfl rfl rfl rfl rfl rfl ?_
  refine rsubF rfl rfl rfl ?_ ?_ rfl rfl rfl ?_
  · (first | omega | assumption | (focus (simp; omega)))
  · (first | omega | assumption | (focus (simp; omega)))
  refine raI rfl rfl rfl rfl rfl ?_
  refine rNil ?_
  refine qSeq ?_
  refine wSeq ?_
  refine wSeq ?_
  refine wRegion ?_
  refine rmI rfl rfl rfl rfl rfl ?_
  refine rlt rfl rfl rfl rfl rfl rfl ?_ ?_ <;> intro h2_1
  · refine rNil ?_
    refine qSeq ?_
    refine wT rfl ?_
    refine wSeq ?_
    refine wRegion ?_
    refine raI rfl rfl rfl rfl rfl ?_
    refine rNil ?_
    refine qSeq ?_
    refine wRet ?_
    refine qSeqR ?_
    rw [hl] at h2_1
    first | (rw [szv_neg h2_1]; exact fin rfl rfl) | (rw [szv_pos h2_1]; exact finE rfl rfl (by rw [hl]))
  · refine rNil ?_
    refine qSeq ?_
    refine wF rfl ?_
    refine wSkip ?_
    refine qSeq ?_
    refine wSeq ?_
    refine wRegion ?_
    refine rmI rfl rfl rfl rfl rfl ?_
    refine raI rfl rfl rfl rfl rfl ?_
    refine rNil ?_
    refine qSeq ?_
    refine wRet ?_
    rw [hl] at h2_1
    first | (rw [szv_neg h2_1]; exact fin rfl rfl) | (rw [szv_pos h2_1]; exact finE rfl rfl (by rw [hl]))
theorem s41 (nn : Bool) (L : List Sn) (k : Int) (hk : 0 ≤ k ∧ k ≤ 1048576) (hm : L.length ≤ 9223372036854775807) : Pure En 41 [.one (.sl nn (L.map Sn.T)), .one (.int .i64 k)] [.one (.int .i64 (szv k L.length))] := by
  have hl : (L.map Sn.T).length = L.length := List.length_map ..
  refine Pure.of_wp Try.func41 rfl (Nat.le_of_ble_eq_true rfl) ?_
  refine wSeq ?_
  refine wRegion ?_
  refine raI rfl rfl rfl rfl rfl ?_
  refine rNil ?_
  refine qSeq ?_
  refine wSeq ?_
  refine wRegion ?_
  refine rmI rfl rfl rfl rfl rfl ?_
  refine rmL rfl rfl rfl rfl rfl ?_
  refine rll rfl rfl rfl rfl rfl rfl ?_
  refine rsubF rfl rfl rfl ?_ ?_ rfl rfl rfl ?_
  · (first | omega | assumption | (focus (simp; omega)))
  · (first | omega | assumption | (focus (simp; omega)))
  refine raI rfl rfl rfl rfl rfl ?_
  refine rNil ?_
  refine qSeq ?_
  refine wSeq ?_
  refine wSeq ?_
  refine wRegion ?_
  refine rmI rfl rfl rfl rfl rfl ?_
  refine rlt rfl rfl rfl rfl rfl rfl ?_ ?_ <;> intro h2_1
  · refine rNil ?_
    refine qSeq ?_
    refine wT rfl ?_
    refine wSeq ?_
    refine wRegion ?_
    refine raI rfl rfl rfl rfl rfl ?_
    refine rNil ?_
    refine qSeq ?_
    refine wRet ?_
    refine qSeqR ?_
    rw [hl] at h2_1
    first | (rw [szv_neg h2_1]; exact fin rfl rfl) | (rw [szv_pos h2_1]; exact finE rfl rfl (by rw [hl]))
  · refine rNil ?_
    refine qSeq ?_
    refine wF rfl ?_
    refine wSkip ?_
    refine qSeq ?_
    refine wSeq ?_
    refine wRegion ?_
    refine rmI rfl rfl rfl rfl rfl ?_
    refine raI rfl rfl rfl rfl rfl ?_
    refine rNil ?_
    refine qSeq ?_
    refine wRet ?_
    rw [hl] at h2_1
    first | (rw [szv_neg h2_1]; exact fin rfl rfl) | (rw [szv_pos h2_1]; exact finE rfl rfl (by rw [hl]))
theorem s80 (b : Bool) (l : Lk) (k : Int) (hk : 0 ≤ k ∧ k ≤ 1048576) (hn : l.nm.size ≤ 9223372036854775807) (hm : l.ws.length ≤ 9223372036854775807) : ∃ x : Int, ((-1 ≤ x ∧ x ≤ k) ∧ (0 ≤ x → (l.ws.length : Int) ≤ k)) ∧ Pure En 80 [.agg (l.T b), .one (.int .i64 k)] [.one (.int .i64 x)] := by
  refine Pure.of_wpX Try.func80 rfl (Nat.le_of_ble_eq_true rfl) ?_
  refine wSeq ?_
  refine wRegion ?_
  refine rbx (u := .agg [.str _, .int _ _, .int _ _, .int _ _, _]) rfl rfl rfl rfl rfl rfl rfl ?_
  refine raI rfl rfl rfl rfl rfl ?_
  refine rNil ?_
  refine qSeq ?_
  refine wSeq ?_
  refine wRegion ?_
  refine rmI rfl rfl rfl rfl rfl ?_
  refine rfa (off := 0) (s := 1) (r := false) rfl rfl rfl (Nat.succ_ne_zero _) rfl rfl rfl ?_
  (apply rlc (v := .str _) rfl rfl; (first | ((simp (disch := omega) only [↓app0, ↓appC, ↓updS, ↓updN, ↓hpS, ↓hpN]) <;> first | rfl | assumption) | assumption | rfl); rfl; rfl; rfl; rfl; rfl; rfl)
  refine rls rfl rfl rfl rfl rfl rfl ?_
  refine rsubF rfl rfl rfl ?_ ?_ rfl rfl rfl ?_
  · (first | omega | assumption | (focus (simp; omega)))
  · (first | omega | assumption | (focus (simp; omega)))
  refine raI rfl rfl rfl rfl rfl ?_
  refine rNil ?_
  refine qSeq ?_
  refine wSeq ?_
  refine wSeq ?_
  refine wRegion ?_
  refine rmI rfl rfl rfl rfl rfl ?_
  refine rlt rfl rfl rfl rfl rfl rfl ?_ ?_ <;> intro h2_1
  · refine rNil ?_
    refine qSeq ?_
    refine wT rfl ?_
    refine wSeq ?_
    refine wRegion ?_
    refine raI rfl rfl rfl rfl rfl ?_
    refine rNil ?_
    refine qSeq ?_
    refine wRet ?_
    refine qSeqR ?_
    exact ⟨-1, ⟨by omega, fun h => by omega⟩, fin rfl rfl⟩
  · refine rNil ?_
    refine qSeq ?_
    refine wF rfl ?_
    refine wSkip ?_
    refine qSeq ?_
    refine wSeq ?_
    refine wRegion ?_
    refine rfa (off := 4) (s := 1) (r := false) rfl rfl rfl (Nat.succ_ne_zero _) rfl rfl rfl ?_
    (apply rlc (v := .sl _ _ _) rfl rfl; (first | ((simp (disch := omega) only [↓app0, ↓appC, ↓updS, ↓updN, ↓hpS, ↓hpN]) <;> first | rfl | assumption) | assumption | rfl); rfl; rfl; rfl; rfl; rfl; rfl)
    refine rmI rfl rfl rfl rfl rfl ?_
    refine rcl (s118 b l.ws (k - l.nm.size) (by omega) hm) rfl rfl rfl rfl rfl rfl ?_
    refine raI rfl rfl rfl rfl rfl ?_
    refine rNil ?_
    refine qSeq ?_
    refine wSeq ?_
    refine wSeq ?_
    refine wRegion ?_
    refine rmI rfl rfl rfl rfl rfl ?_
    refine rlt rfl rfl rfl rfl rfl rfl ?_ ?_ <;> intro h5_1
    · refine rNil ?_
      refine qSeq ?_
      refine wT rfl ?_
      refine wSeq ?_
      refine wRegion ?_
      refine raI rfl rfl rfl rfl rfl ?_
      refine rNil ?_
      refine qSeq ?_
      refine wRet ?_
      refine qSeqR ?_
      exact ⟨-1, ⟨by omega, fun h => by omega⟩, fin rfl rfl⟩
    · refine rNil ?_
      refine qSeq ?_
      refine wF rfl ?_
      refine wSkip ?_
      refine qSeq ?_
      refine wSeq ?_
      refine wRegion ?_
      refine rmI rfl rfl rfl rfl rfl ?_
      refine raI rfl rfl rfl rfl rfl ?_
      refine rNil ?_
      refine qSeq ?_
      refine wRet ?_
      have e1 := szv_le (k := k - l.nm.size) (m := l.ws.length) (by omega)
      have e2 : 0 ≤ szv (k - l.nm.size) l.ws.length → (l.ws.length : Int) ≤ k - l.nm.size := fun h => by unfold szv at h; split at h <;> omega
      exact ⟨szv (k - l.nm.size) l.ws.length, ⟨by omega, fun h => by have := e2 h; omega⟩, fin rfl rfl⟩
theorem s40 (nn b : Bool) (L : List Lk) (k : Int) (hk : 0 ≤ k ∧ k ≤ 1048576) (hm : L.length ≤ 9223372036854775807) (hs : ∀ i, i < L.length → (L.getD i Lk0).nm.size ≤ 9223372036854775807 ∧ (L.getD i Lk0).ws.length ≤ 9223372036854775807) : ∃ x : Int, ((-1 ≤ x ∧ x ≤ k) ∧ (0 ≤ x → (L.length : Int) ≤ k ∧ ∀ j, j < L.length → ((L.getD j Lk0).ws.length : Int) ≤ k)) ∧ Pure En 40 [.one (.sl nn (L.map (Lk.T b))), .one (.int .i64 k)] [.one (.int .i64 x)] := by
  have hl : (L.map (Lk.T b)).length = L.length := List.length_map ..
  refine Pure.of_wpX Try.func40 rfl (Nat.le_of_ble_eq_true rfl) ?_
  refine wSeq ?_
  refine wRegion ?_
  refine raI rfl rfl rfl rfl rfl ?_
  refine rNil ?_
  refine qSeq ?_
  refine wSeq ?_
  refine wRegion ?_
  refine rmI rfl rfl rfl rfl rfl ?_
  refine rmL rfl rfl rfl rfl rfl ?_
  refine rll rfl rfl rfl rfl rfl rfl ?_
  refine rsubF rfl rfl rfl ?_ ?_ rfl rfl rfl ?_
  · (first | omega | assumption | (focus (simp; omega)))
  · (first | omega | assumption | (focus (simp; omega)))
  refine raI rfl rfl rfl rfl rfl ?_
  refine rNil ?_
  refine qSeq ?_
  refine wSeq ?_
  refine wSeq ?_
  refine wRegion ?_
  refine rmI rfl rfl rfl rfl rfl ?_
  refine rlt rfl rfl rfl rfl rfl rfl ?_ ?_ <;> intro h2_1
  · refine rNil ?_
    refine qSeq ?_
    refine wT rfl ?_
    refine wSeq ?_
    refine wRegion ?_
    refine raI rfl rfl rfl rfl rfl ?_
    refine rNil ?_
    refine qSeq ?_
    refine wRet ?_
    refine qSeqR ?_
    exact ⟨-1, ⟨by omega, fun h => by omega⟩, fin rfl rfl⟩
  · refine rNil ?_
    refine qSeq ?_
    refine wF rfl ?_
    refine wSkip ?_
    refine qSeq ?_
    refine wSeq ?_
    refine wSeq ?_
    refine wRegion ?_
    refine raI rfl rfl rfl rfl rfl ?_
    refine rNil ?_
    refine qSeq ?_
    refine wBlock ?_
    refine wLoop ?_
    refine loopGo0 (fun (a : Nat × Int) => [.sl false nn (L.map (Lk.T b)), .int .i64 a.2, .unk, .unk, .unk, .int .i64 a.1]) (fun (a : Nat × Int) => a.1 ≤ L.length ∧ (0 ≤ a.2 ∧ a.2 ≤ k) ∧ (L.length : Int) ≤ k ∧ ∀ j, j < a.1 → ((L.getD j Lk0).ws.length : Int) ≤ k) (fun (a : Nat × Int) => L.length - a.1) (0, k - (L.map (Lk.T b)).length) ?_ ?_ ?_
    · exact ⟨Nat.zero_le _, by dsimp only; omega, by omega, all0⟩
    · (repeat first | exact LE.nil _ | refine LE.unk _ _ ?_ | refine LE.eq _ _ _ rfl ?_)
    intro ⟨i, a1⟩ hI ih
    dsimp only at hI ⊢
    refine lStep ?_
    refine wSeq ?_
    refine wSeq ?_
    refine wRegion ?_
    refine rmI rfl rfl rfl rfl rfl ?_
    refine rmL rfl rfl rfl rfl rfl ?_
    refine rll rfl rfl rfl rfl rfl rfl ?_
    refine rlt rfl rfl rfl rfl rfl rfl ?_ ?_ <;> intro h5_3
    · refine rNil ?_
      refine qSeq ?_
      refine wT rfl ?_
      refine wSkip ?_
      refine qSeq ?_
      refine wSeq ?_
      refine wBlock ?_
      refine wSeq ?_
      refine wRegion ?_
      refine rmL rfl rfl rfl rfl rfl ?_
      refine rmI rfl rfl rfl rfl rfl ?_
      (apply rixl rfl rfl rfl rfl; (first | omega | assumption | (focus (simp; omega))); (first | rfl | assumption | (exact getMap (Lk.T b) Lk0 (k := i) (by omega))); rfl; rfl; rfl; rfl)
      refine rlir (vs := [.str _, .int _ _, .int _ _, .int _ _, _]) rfl rfl rfl (Nat.le_of_ble_eq_true rfl) rfl rfl rfl rfl ?_
      refine rmI rfl rfl rfl rfl rfl ?_
      refine rclX (s80 b (L.getD i Lk0) a1 (by omega) (hs i (by omega)).1 (hs i (by omega)).2) rfl rfl rfl rfl rfl rfl ?_
      rintro y h7_5
      try dsimp only at h7_5
      refine raI rfl rfl rfl rfl rfl ?_
      refine rNil ?_
      refine qSeq ?_
      refine wSeq ?_
      refine wRegion ?_
      refine rmI rfl rfl rfl rfl rfl ?_
      refine rlt rfl rfl rfl rfl rfl rfl ?_ ?_ <;> intro h8_1
      · refine rNil ?_
        refine qSeq ?_
        refine wT rfl ?_
        refine wSeq ?_
        refine wRegion ?_
        refine raI rfl rfl rfl rfl rfl ?_
        refine rNil ?_
        refine qSeq ?_
        refine wRet ?_
        refine qBlockR ?_
        refine qSeqR ?_
        refine qLoopR ?_
        refine qBlockR ?_
        refine qSeqR ?_
        exact ⟨-1, ⟨by omega, fun h => by omega⟩, fin rfl rfl⟩
      · refine rNil ?_
        refine qSeq ?_
        refine wF rfl ?_
        refine wSkip ?_
        refine qBlock ?_
        refine qSeq ?_
        refine wRegion ?_
        refine rmI rfl rfl rfl rfl rfl ?_
        refine raddF rfl rfl rfl ?_ ?_ rfl rfl rfl ?_
        · (first | omega | assumption | (focus (simp; omega)))
        · (first | omega | assumption | (focus (simp; omega)))
        refine raI rfl rfl rfl rfl rfl ?_
        refine rNil ?_
        refine qLoop ?_
        exact wlN (ih (i + 1, y) ⟨by dsimp only; omega, by dsimp only; omega, by omega, allS hI.2.2.2 (by have := h7_5.2 (by omega); omega)⟩ (by dsimp only; omega)) (by (repeat first | exact LE.nil _ | refine LE.unk _ _ ?_ | refine LE.eq _ _ _ rfl ?_))
    · refine rNil ?_
      refine qSeq ?_
      refine wF rfl ?_
      refine wExit ?_
      refine qSeqX ?_
      refine qLoopX ?_
      refine qBlockX ?_
      refine qSeq ?_
      refine wSeq ?_
      refine wRegion ?_
      refine rmI rfl rfl rfl rfl rfl ?_
      refine raI rfl rfl rfl rfl rfl ?_
      refine rNil ?_
      refine qSeq ?_
      refine wRet ?_
      exact ⟨a1, ⟨by omega, fun h => ⟨by omega, fun j hj => hI.2.2.2 j (by omega)⟩⟩, fin rfl rfl⟩
theorem s9 (n1 n2 b : Bool) (t : Tb) (k : Int) (hk : 0 ≤ k ∧ k ≤ 1048576) (hm : t.lk.length ≤ 9223372036854775807) (hs : ∀ i, i < t.lk.length → (t.lk.getD i Lk0).nm.size ≤ 9223372036854775807 ∧ (t.lk.getD i Lk0).ws.length ≤ 9223372036854775807) (ha : t.sn.length ≤ 9223372036854775807) : ∃ x : Int, ((-1 ≤ x ∧ x ≤ k) ∧ (0 ≤ x → (t.lk.length : Int) ≤ k ∧ (∀ j, j < t.lk.length → ((t.lk.getD j Lk0).ws.length : Int) ≤ k) ∧ (t.sn.length : Int) ≤ k)) ∧ Pure En 9 [.agg (t.T b n1 n2), .one (.int .i64 k)] [.one (.int .i64 x)] := by
  refine Pure.of_wpX Try.func9 rfl (Nat.le_of_ble_eq_true rfl) ?_
  refine wSeq ?_
  refine wRegion ?_
  refine rbx (u := .agg [.int _ _, .int _ _, _, _]) rfl rfl rfl rfl rfl rfl rfl ?_
  refine raI rfl rfl rfl rfl rfl ?_
  refine rNil ?_
  refine qSeq ?_
  refine wSeq ?_
  refine wRegion ?_
  refine rfa (off := 2) (s := 1) (r := false) rfl rfl rfl (Nat.succ_ne_zero _) rfl rfl rfl ?_
  (apply rlc (v := .sl _ _ _) rfl rfl; (first | ((simp (disch := omega) only [↓app0, ↓appC, ↓updS, ↓updN, ↓hpS, ↓hpN]) <;> first | rfl | assumption) | assumption | rfl); rfl; rfl; rfl; rfl; rfl; rfl)
  refine rmI rfl rfl rfl rfl rfl ?_
  refine rclX (s40 n1 b t.lk k hk hm hs) rfl rfl rfl rfl rfl rfl ?_
  rintro y h1_3
  try dsimp only at h1_3
  refine raI rfl rfl rfl rfl rfl ?_
  refine rNil ?_
  refine qSeq ?_
  refine wSeq ?_
  refine wSeq ?_
  refine wRegion ?_
  refine rmI rfl rfl rfl rfl rfl ?_
  refine rlt rfl rfl rfl rfl rfl rfl ?_ ?_ <;> intro h2_1
  · refine rNil ?_
    refine qSeq ?_
    refine wT rfl ?_
    refine wSeq ?_
    refine wRegion ?_
    refine raI rfl rfl rfl rfl rfl ?_
    refine rNil ?_
    refine qSeq ?_
    refine wRet ?_
    refine qSeqR ?_
    exact ⟨-1, ⟨by omega, fun h => by omega⟩, fin rfl rfl⟩
  · refine rNil ?_
    refine qSeq ?_
    refine wF rfl ?_
    refine wSkip ?_
    refine qSeq ?_
    refine wSeq ?_
    refine wRegion ?_
    refine rfa (off := 3) (s := 1) (r := false) rfl rfl rfl (Nat.succ_ne_zero _) rfl rfl rfl ?_
    (apply rlc (v := .sl _ _ _) rfl rfl; (first | ((simp (disch := omega) only [↓app0, ↓appC, ↓updS, ↓updN, ↓hpS, ↓hpN]) <;> first | rfl | assumption) | assumption | rfl); rfl; rfl; rfl; rfl; rfl; rfl)
    refine rmI rfl rfl rfl rfl rfl ?_
    refine rcl (s41 n2 t.sn y (by omega) ha) rfl rfl rfl rfl rfl rfl ?_
    refine raI rfl rfl rfl rfl rfl ?_
    refine rNil ?_
    refine qSeq ?_
    refine wSeq ?_
    refine wSeq ?_
    refine wRegion ?_
    refine rmI rfl rfl rfl rfl rfl ?_
    refine rlt rfl rfl rfl rfl rfl rfl ?_ ?_ <;> intro h5_1
    · refine rNil ?_
      refine qSeq ?_
      refine wT rfl ?_
      refine wSeq ?_
      refine wRegion ?_
      refine raI rfl rfl rfl rfl rfl ?_
      refine rNil ?_
      refine qSeq ?_
      refine wRet ?_
      refine qSeqR ?_
      exact ⟨-1, ⟨by omega, fun h => by omega⟩, fin rfl rfl⟩
    · refine rNil ?_
      refine qSeq ?_
      refine wF rfl ?_
      refine wSkip ?_
      refine qSeq ?_
      refine wSeq ?_
      refine wRegion ?_
      refine rmI rfl rfl rfl rfl rfl ?_
      refine raI rfl rfl rfl rfl rfl ?_
      refine rNil ?_
      refine qSeq ?_
      refine wRet ?_
      have e1 := szv_le (k := y) (m := t.sn.length) (by omega)
      have e2 : 0 ≤ szv y t.sn.length → (t.sn.length : Int) ≤ y := fun h => by unfold szv at h; split at h <;> omega
      exact ⟨szv y t.sn.length, ⟨by omega, fun h => ⟨(h1_3.2 (by omega)).1, (h1_3.2 (by omega)).2, by have := e2 h; omega⟩⟩, fin rfl rfl⟩
end Go.Proofs.Ytknnniaoboaghaa
