import Derived.Test.YtnkpjlpappmccaaE4
namespace Go.Proofs.Ytnkpjlpappmccaa
open Go.V
set_option linter.unusedVariables false
set_option linter.unusedSimpArgs false
set_option maxRecDepth 20000
set_option maxHeartbeats 4000000


theorem midE {a b : Nat} (h : a + b ≤ 1000000) : IntKind.i64.wrap ((IntKind.u64.wrap ((a : Int) + (b : Int))).fdiv (2 ^ (min (1 : Int).toNat IntKind.u64.bits))) = (((a + b) / 2 : Nat) : Int) := by
  have e1 : IntKind.u64.wrap ((a : Int) + (b : Int)) = (a : Int) + b := by
    have : IntKind.u64.wrap ((a : Int) + (b : Int)) = ((a : Int) + (b : Int)) % (2 ^ 64 : Int) := rfl
    rw [this]
    exact Int.emod_eq_of_lt (by omega) (by have : (2 ^ 64 : Int) = 18446744073709551616 := rfl; omega)
  have e2 : (2 : Int) ^ (min (1 : Int).toNat IntKind.u64.bits) = 2 := rfl
  rw [e1, e2, Int.fdiv_eq_ediv_of_nonneg _ (by decide)]
  have e3 : ((a : Int) + b) / 2 = (((a + b) / 2 : Nat) : Int) := by omega
  rw [e3, wrap_fits (by omega) (by omega)]
theorem srow (L : List Sn) (i : Nat) : ((Sn.V (L.getD (0 + (i : Int).toNat) Sn0)).drop 0).take 6 = Sn.V (L.getD i Sn0) := by
  rw [Nat.zero_add, Int.toNat_natCast]; rfl
theorem p40 (s : Sn) (c : Int) (h : -1000 ≤ s.cl ∧ s.cl ≤ 1000 ∧ -1000 ≤ c ∧ c ≤ 1000) : Pure En 40 [.agg s.T, .one (.int .i64 c)] [.one (.int .i64 (s.cl - c))] := by
  refine Pure.of_wp Try.func40 rfl (Nat.le_of_ble_eq_true rfl) ?_
  refine wSeq ?_
  refine wRegion ?_
  refine rbx (u := .agg [.int _ _, .int _ _, .int _ _, .int _ _, .int _ _, .int _ _]) rfl rfl rfl rfl rfl rfl rfl ?_
  refine raI rfl rfl rfl rfl rfl ?_
  refine rNil ?_
  refine qSeq ?_
  refine wSeq ?_
  refine wRegion ?_
  refine rfa (off := 0) (s := 1) (r := false) rfl rfl rfl (Nat.succ_ne_zero _) rfl rfl rfl ?_
  (apply rlc (v := .int _ _) rfl rfl; (first | ((simp (disch := omega) only [↓app0, ↓appC, ↓updS, ↓updN, ↓hpS, ↓hpN]) <;> first | rfl | assumption) | assumption | rfl); rfl; rfl; rfl; rfl; rfl; rfl)
  refine rmI rfl rfl rfl rfl rfl ?_
  refine rsubF rfl rfl rfl ?_ ?_ rfl rfl rfl ?_
  · omega
  · omega
  refine raI rfl rfl rfl rfl rfl ?_
  refine rNil ?_
  refine qSeq ?_
  refine wRet ?_
  exact fin rfl rfl
theorem o39v (L : List Sn) (c : Nat) (hc : c ≤ L.length) (hL : L.length ≤ 900) (hcl : ∀ j, j < L.length → (L.getD j Sn0).cl = j) {sb : Nat} {h : Heap} {n : Nat} (hs : sb < n) (k1 : h sb = some ⟨L.map Sn.V, 6, 79⟩) :
    V.Open En 39 [.view sb 0 L.length, .int .i64 c, .clo 40 []] h n (.tup [.int .i64 c, .bool (decide (c < L.length))]) [] n := by
  refine V.Open.of_wp Try.func39 rfl (Nat.le_of_ble_eq_true rfl) ?_
  refine wSeq ?_
  refine wRegion ?_
  refine raI rfl rfl rfl rfl rfl ?_
  refine raB rfl rfl rfl rfl rfl ?_
  refine rNil ?_
  refine qSeq ?_
  refine wSeq ?_
  refine wRegion ?_
  refine rmV rfl rfl rfl rfl rfl ?_
  refine rll rfl rfl rfl rfl rfl rfl ?_
  refine raI rfl rfl rfl rfl rfl ?_
  refine rNil ?_
  refine qSeq ?_
  refine wSeq ?_
  refine wRegion ?_
  refine rmI rfl rfl rfl rfl rfl ?_
  refine raI rfl rfl rfl rfl rfl ?_
  refine raI rfl rfl rfl rfl rfl ?_
  refine rNil ?_
  refine qSeq ?_
  refine wSeq ?_
  refine wBlock ?_
  refine wLoop ?_
  refine loopGo (fun (a : Nat × Nat) => [.view sb 0 L.length, .int .i64 c, .clo 40 [], .unk, .unk, .unk, .unk, .unk, .int .i64 L.length, .int .i64 a.1, .int .i64 a.2]) (fun (a : Nat × Nat) => h) (fun (a : Nat × Nat) => n) (fun (a : Nat × Nat) => a.1 ≤ c ∧ c ≤ a.2 ∧ a.2 ≤ L.length) (fun (a : Nat × Nat) => a.2 - a.1) (0, L.length) ?_ ?_ ?_ ?_ ?_
  · exact ⟨Nat.zero_le _, hc, Nat.le_refl _⟩
  · (repeat first | exact LE.nil _ | refine LE.unk _ _ ?_ | refine LE.eq _ _ _ rfl ?_)
  · exact LessH.refl _
  · exact Nat.le_refl _
  intro ⟨lo, hi⟩ hI ih
  dsimp only at hI ⊢
  refine lStep ?_
  refine wSeq ?_
  refine wSeq ?_
  refine wRegion ?_
  refine rmI rfl rfl rfl rfl rfl ?_
  refine rmI rfl rfl rfl rfl rfl ?_
  refine rlt rfl rfl rfl rfl rfl rfl ?_ ?_ <;> intro h3_2
  · refine rNil ?_
    refine qSeq ?_
    refine wT rfl ?_
    refine wSkip ?_
    refine qSeq ?_
    refine wBlock ?_
    refine wSeq ?_
    refine wRegion ?_
    refine rmI rfl rfl rfl rfl rfl ?_
    refine rmI rfl rfl rfl rfl rfl ?_
    refine raddF rfl rfl rfl ?_ ?_ rfl rfl rfl ?_
    · (first | omega | assumption | (focus (simp; omega)))
    · (first | omega | assumption | (focus (simp; omega)))
    refine rcv rfl rfl rfl rfl rfl rfl rfl ?_
    refine rshr rfl rfl rfl ?_ rfl rfl rfl ?_
    · (first | omega | assumption | (focus (simp; omega)))
    refine rcv rfl rfl rfl rfl rfl rfl rfl ?_
    refine raI (k := .i64) (a := (((lo + hi) / 2 : Nat) : Int)) rfl (congrArg (V.int .i64) (midE (by omega))) rfl rfl rfl ?_
    refine rNil ?_
    refine qSeq ?_
    refine wSeq ?_
    refine wRegion ?_
    refine rmC rfl rfl rfl rfl rfl ?_
    refine rmV rfl rfl rfl rfl rfl ?_
    refine rmI rfl rfl rfl rfl rfl ?_
    (apply rixv rfl rfl rfl rfl; (first | ((simp (disch := omega) only [↓app0, ↓appC, ↓updS, ↓updN, ↓hpS, ↓hpN]) <;> first | rfl | assumption) | assumption | rfl); rfl; (first | omega | assumption | (focus (simp; omega))); (first | omega | assumption | (focus (simp; omega))); rfl; rfl; rfl)
    (apply rlr (vs := Sn.V (L.getD ((lo + hi) / 2) Sn0)) rfl rfl; (first | ((simp (disch := omega) only [↓app0, ↓appC, ↓updS, ↓updN]) <;> first | rfl | assumption) | assumption | rfl); exact getMap Sn.V Sn0 (show 0 + (((lo + hi) / 2 : Nat) : Int).toNat < L.length by omega); rfl; (exact Nat.le_of_ble_eq_true rfl); exact srow _ _; rfl; rfl; rfl)
    refine rmI rfl rfl rfl rfl rfl ?_
    refine rcl (p40 (L.getD ((lo + hi) / 2) Sn0) c (by have := hcl ((lo + hi) / 2) (by omega); omega)) rfl rfl rfl rfl rfl rfl ?_
    refine rlt rfl rfl rfl rfl rfl rfl ?_ ?_ <;> intro h5_7
    · refine rNil ?_
      refine qSeq ?_
      refine wT rfl ?_
      refine wRegion ?_
      refine rmI rfl rfl rfl rfl rfl ?_
      refine raddF rfl rfl rfl ?_ ?_ rfl rfl rfl ?_
      · (first | omega | assumption | (focus (simp; omega)))
      · (first | omega | assumption | (focus (simp; omega)))
      refine raI rfl rfl rfl rfl rfl ?_
      refine rNil ?_
      refine qBlock ?_
      refine qLoop ?_
      have hm := hcl ((lo + hi) / 2) (by omega)
      first
        | exact wlH (ih ((lo + hi) / 2 + 1, hi) ⟨by dsimp only; omega, by dsimp only; omega, by dsimp only; omega⟩ (by dsimp only; omega)) (by (repeat first | exact LE.nil _ | refine LE.unk _ _ ?_ | refine LE.eq _ _ _ rfl ?_)) (LessH.refl _) (Nat.le_refl _)
        | exact wlH (ih (lo, (lo + hi) / 2) ⟨by dsimp only; omega, by dsimp only; omega, by dsimp only; omega⟩ (by dsimp only; omega)) (by (repeat first | exact LE.nil _ | refine LE.unk _ _ ?_ | refine LE.eq _ _ _ rfl ?_)) (LessH.refl _) (Nat.le_refl _)
    · refine rNil ?_
      refine qSeq ?_
      refine wF rfl ?_
      refine wRegion ?_
      refine rmI rfl rfl rfl rfl rfl ?_
      refine raI rfl rfl rfl rfl rfl ?_
      refine rNil ?_
      refine qBlock ?_
      refine qLoop ?_
      have hm := hcl ((lo + hi) / 2) (by omega)
      first
        | exact wlH (ih ((lo + hi) / 2 + 1, hi) ⟨by dsimp only; omega, by dsimp only; omega, by dsimp only; omega⟩ (by dsimp only; omega)) (by (repeat first | exact LE.nil _ | refine LE.unk _ _ ?_ | refine LE.eq _ _ _ rfl ?_)) (LessH.refl _) (Nat.le_refl _)
        | exact wlH (ih (lo, (lo + hi) / 2) ⟨by dsimp only; omega, by dsimp only; omega, by dsimp only; omega⟩ (by dsimp only; omega)) (by (repeat first | exact LE.nil _ | refine LE.unk _ _ ?_ | refine LE.eq _ _ _ rfl ?_)) (LessH.refl _) (Nat.le_refl _)
  · refine rNil ?_
    refine qSeq ?_
    refine wF rfl ?_
    refine wExit ?_
    refine qSeqX ?_
    refine qLoopX ?_
    refine qBlockX ?_
    refine qSeq ?_
    refine wSeq ?_
    refine wRegion ?_
    refine rmI rfl rfl rfl rfl rfl ?_
    refine rmI rfl rfl rfl rfl rfl ?_
    refine rmI rfl rfl rfl rfl rfl ?_
    refine rlt rfl rfl rfl rfl rfl rfl ?_ ?_ <;> intro h8_3
    · refine rmB rfl rfl rfl rfl rfl ?_
      refine rmC rfl rfl rfl rfl rfl ?_
      refine rmV rfl rfl rfl rfl rfl ?_
      refine rmI rfl rfl rfl rfl rfl ?_
      (apply rixv rfl rfl rfl rfl; (first | ((simp (disch := omega) only [↓app0, ↓appC, ↓updS, ↓updN, ↓hpS, ↓hpN]) <;> first | rfl | assumption) | assumption | rfl); rfl; (first | omega | assumption | (focus (simp; omega))); (first | omega | assumption | (focus (simp; omega))); rfl; rfl; rfl)
      (apply rlr (vs := Sn.V (L.getD lo Sn0)) rfl rfl; (first | ((simp (disch := omega) only [↓app0, ↓appC, ↓updS, ↓updN]) <;> first | rfl | assumption) | assumption | rfl); exact getMap Sn.V Sn0 (show 0 + (lo : Int).toNat < L.length by omega); rfl; (exact Nat.le_of_ble_eq_true rfl); exact srow _ _; rfl; rfl; rfl)
      refine rmI rfl rfl rfl rfl rfl ?_
      refine rcl (p40 (L.getD lo Sn0) c (by have := hcl lo (by omega); omega)) rfl rfl rfl rfl rfl rfl ?_
      refine req rfl rfl rfl rfl rfl rfl ?_ ?_ <;> intro h8_12
      · refine rpk (e := true) rfl rfl rfl rfl rfl rfl ?_
        refine raI rfl rfl rfl rfl rfl ?_
        refine raB rfl rfl rfl rfl rfl ?_
        refine rNil ?_
        refine qSeq ?_
        refine wRet ?_
        have hlc : lo = c := by omega
        subst hlc
        first
          | (rw [decide_eq_true (show lo < L.length by omega)]; exact finO rfl rfl (fun _ _ _ e => e) (Nat.le_refl _))
          | (rw [decide_eq_false (show ¬ lo < L.length by omega)]; exact finO rfl rfl (fun _ _ _ e => e) (Nat.le_refl _))
          | exact absurd (by rw [hcl lo (by omega)]; omega) h8_12
      · refine rpk (e := false) rfl rfl rfl rfl rfl rfl ?_
        refine raI rfl rfl rfl rfl rfl ?_
        refine raB rfl rfl rfl rfl rfl ?_
        refine rNil ?_
        refine qSeq ?_
        refine wRet ?_
        have hlc : lo = c := by omega
        subst hlc
        first
          | (rw [decide_eq_true (show lo < L.length by omega)]; exact finO rfl rfl (fun _ _ _ e => e) (Nat.le_refl _))
          | (rw [decide_eq_false (show ¬ lo < L.length by omega)]; exact finO rfl rfl (fun _ _ _ e => e) (Nat.le_refl _))
          | exact absurd (by rw [hcl lo (by omega)]; omega) h8_12
    · refine rmB rfl rfl rfl rfl rfl ?_
      refine rSkip rfl rfl rfl ?_
      refine rSkip rfl rfl rfl ?_
      refine rSkip rfl rfl rfl ?_
      refine rSkip rfl rfl rfl ?_
      refine rSkip rfl rfl rfl ?_
      refine rSkip rfl rfl rfl ?_
      refine rSkip rfl rfl rfl ?_
      refine rSkip rfl rfl rfl ?_
      refine rpk (e := false) rfl rfl rfl rfl rfl rfl ?_
      refine raI rfl rfl rfl rfl rfl ?_
      refine raB rfl rfl rfl rfl rfl ?_
      refine rNil ?_
      refine qSeq ?_
      refine wRet ?_
      have hlc : lo = c := by omega
      subst hlc
      first
        | (rw [decide_eq_true (show lo < L.length by omega)]; exact finO rfl rfl (fun _ _ _ e => e) (Nat.le_refl _))
        | (rw [decide_eq_false (show ¬ lo < L.length by omega)]; exact finO rfl rfl (fun _ _ _ e => e) (Nat.le_refl _))
        | exact absurd (by rw [hcl lo (by omega)]; omega) h8_12
theorem o39n {h : Heap} {n : Nat} : V.Open En 39 [.nsl, .int .i64 0, .clo 40 []] h n (.tup [.int .i64 0, .bool false]) [] n := by
  refine V.Open.of_wp Try.func39 rfl (Nat.le_of_ble_eq_true rfl) ?_
  refine wSeq ?_
  refine wRegion ?_
  refine raI rfl rfl rfl rfl rfl ?_
  refine raB rfl rfl rfl rfl rfl ?_
  refine rNil ?_
  refine qSeq ?_
  refine wSeq ?_
  refine wRegion ?_
  refine rmN rfl rfl rfl rfl rfl ?_
  refine rll rfl rfl rfl rfl rfl rfl ?_
  refine raI rfl rfl rfl rfl rfl ?_
  refine rNil ?_
  refine qSeq ?_
  refine wSeq ?_
  refine wRegion ?_
  refine rmI rfl rfl rfl rfl rfl ?_
  refine raI rfl rfl rfl rfl rfl ?_
  refine raI rfl rfl rfl rfl rfl ?_
  refine rNil ?_
  refine qSeq ?_
  refine wSeq ?_
  refine wBlock ?_
  refine wLoop ?_
  refine lStep ?_
  refine wSeq ?_
  refine wSeq ?_
  refine wRegion ?_
  refine rmI rfl rfl rfl rfl rfl ?_
  refine rmI rfl rfl rfl rfl rfl ?_
  refine rlt rfl rfl rfl rfl rfl rfl (fun h => absurd h (by decide)) ?_
  intro h3_2
  refine rNil ?_
  refine qSeq ?_
  refine wF rfl ?_
  refine wExit ?_
  refine qSeqX ?_
  refine qLoopX ?_
  refine qBlockX ?_
  refine qSeq ?_
  refine wSeq ?_
  refine wRegion ?_
  refine rmI rfl rfl rfl rfl rfl ?_
  refine rmI rfl rfl rfl rfl rfl ?_
  refine rmI rfl rfl rfl rfl rfl ?_
  refine rlt rfl rfl rfl rfl rfl rfl (fun h => absurd h (by decide)) ?_
  intro h8_3
  refine rmB rfl rfl rfl rfl rfl ?_
  refine rSkip rfl rfl rfl ?_
  refine rSkip rfl rfl rfl ?_
  refine rSkip rfl rfl rfl ?_
  refine rSkip rfl rfl rfl ?_
  refine rSkip rfl rfl rfl ?_
  refine rSkip rfl rfl rfl ?_
  refine rSkip rfl rfl rfl ?_
  refine rSkip rfl rfl rfl ?_
  refine rpk (e := false) rfl rfl rfl rfl rfl rfl ?_
  refine raI rfl rfl rfl rfl rfl ?_
  refine raB rfl rfl rfl rfl rfl ?_
  refine rNil ?_
  refine qSeq ?_
  refine wRet ?_
  exact finO rfl rfl (fun _ _ _ e => e) (Nat.le_refl _)

theorem o43n (s : Sn) {v1 : Nat} {h : Heap} {n : Nat} (hv : v1 < n) (k1 : h v1 = some ⟨[s.V], 6, 79⟩) : V.Open En 43 [.nsl, .int .i64 0, .view v1 0 1] h n (.view n 0 1) [(n, some ⟨[s.V], 6, 79⟩)] (n + 1) := by
  unfold Sn.V at k1
  refine V.Open.of_wp Try.func43 rfl (Nat.le_of_ble_eq_true rfl) ?_
  refine wSeq ?_
  refine wRegion ?_
  refine raN rfl rfl rfl rfl rfl ?_
  refine rNil ?_
  refine qSeq ?_
  refine wSeq ?_
  refine wRegion ?_
  refine rmN rfl rfl rfl rfl rfl ?_
  refine rmI rfl rfl rfl rfl rfl ?_
  refine rsln rfl rfl rfl rfl rfl rfl rfl rfl ?_
  refine rNil ?_
  refine qSeq ?_
  refine wSeq ?_
  refine wRegion ?_
  refine rmV rfl rfl rfl rfl rfl ?_
  refine rll rfl rfl rfl rfl rfl rfl ?_
  refine raI rfl rfl rfl rfl rfl ?_
  refine rNil ?_
  refine qSeq ?_
  refine wSeq ?_
  refine wSeq ?_
  refine wRegion ?_
  refine rmI rfl rfl rfl rfl rfl ?_
  refine req rfl rfl rfl rfl rfl rfl (fun h => absurd h (by decide)) ?_
  intro h3_1
  refine rNil ?_
  refine qSeq ?_
  refine wF rfl ?_
  refine wSkip ?_
  refine qSeq ?_
  refine wSeq ?_
  refine wRegion ?_
  refine rmN rfl rfl rfl rfl rfl ?_
  refine rll rfl rfl rfl rfl rfl rfl ?_
  refine raI rfl rfl rfl rfl rfl ?_
  refine rNil ?_
  refine qSeq ?_
  refine wSeq ?_
  refine wSeq ?_
  refine wRegion ?_
  refine rmI rfl rfl rfl rfl rfl ?_
  refine rmI rfl rfl rfl rfl rfl ?_
  refine req rfl rfl rfl rfl rfl rfl ?_ (fun h => absurd (by decide) h)
  intro h6_2
  refine rNil ?_
  refine qSeq ?_
  refine wT rfl ?_
  refine wSeq ?_
  refine wRegion ?_
  refine rmN rfl rfl rfl rfl rfl ?_
  refine rmV rfl rfl rfl rfl rfl ?_
  (apply ran (s' := 48)  rfl rfl rfl rfl (Nat.succ_ne_zero _); (first | rfl | (apply srcView rfl; (first | ((simp (disch := omega) only [↓app0, ↓appC, ↓updS, ↓updN, ↓hpS, ↓hpN]) <;> first | rfl | assumption) | assumption | rfl); (first | exact Nat.le_refl _ | omega); rfl)); (first | rfl | assumption | (focus (simp; done)) | (intro _ _; simp_all)); (first | omega | (focus (simp only [List.length_cons, List.length_nil]; omega)) | exact Nat.le_of_ble_eq_true rfl); (first | omega | (focus (simp only [List.length_cons, List.length_nil]; omega)) | exact Nat.le_of_ble_eq_true rfl); (first | omega | (focus (simp only [List.length_cons, List.length_nil]; omega)) | exact Nat.le_of_ble_eq_true rfl); rfl; rfl; rfl)
  refine raV rfl rfl rfl rfl rfl ?_
  refine rNil ?_
  refine qSeq ?_
  refine wRet ?_
  refine qSeqR ?_
  exact finO rfl rfl (leWr (by
    intro j hj
    simp only [List.map_cons, List.map_nil, List.mem_cons, List.not_mem_nil, or_false] at hj
    rcases hj with rfl <;> (simp (disch := omega) only [↓app0, ↓appC, ↓updS, ↓updN]) <;> first | rfl | (fail)) (fun j hj hn => by
    simp only [List.map_cons, List.map_nil, List.mem_cons, List.not_mem_nil, or_false, not_or] at hn
    simp (disch := omega) only [↓app0, ↓appC, ↓updS, ↓updN])) (Nat.le_refl _)
theorem o78n (l : Lk) (W : V) {v1 : Nat} {h : Heap} {n : Nat} (hv : v1 < n) (k1 : h v1 = some ⟨[l.V W], 5, 46⟩) : V.Open En 78 [.nsl, .int .i64 0, .view v1 0 1] h n (.view n 0 1) [(n, some ⟨[l.V W], 5, 46⟩)] (n + 1) := by
  unfold Lk.V at k1
  refine V.Open.of_wp Try.func78 rfl (Nat.le_of_ble_eq_true rfl) ?_
  refine wSeq ?_
  refine wRegion ?_
  refine raN rfl rfl rfl rfl rfl ?_
  refine rNil ?_
  refine qSeq ?_
  refine wSeq ?_
  refine wRegion ?_
  refine rmN rfl rfl rfl rfl rfl ?_
  refine rmI rfl rfl rfl rfl rfl ?_
  refine rsln rfl rfl rfl rfl rfl rfl rfl rfl ?_
  refine rNil ?_
  refine qSeq ?_
  refine wSeq ?_
  refine wRegion ?_
  refine rmV rfl rfl rfl rfl rfl ?_
  refine rll rfl rfl rfl rfl rfl rfl ?_
  refine raI rfl rfl rfl rfl rfl ?_
  refine rNil ?_
  refine qSeq ?_
  refine wSeq ?_
  refine wSeq ?_
  refine wRegion ?_
  refine rmI rfl rfl rfl rfl rfl ?_
  refine req rfl rfl rfl rfl rfl rfl (fun h => absurd h (by decide)) ?_
  intro h3_1
  refine rNil ?_
  refine qSeq ?_
  refine wF rfl ?_
  refine wSkip ?_
  refine qSeq ?_
  refine wSeq ?_
  refine wRegion ?_
  refine rmN rfl rfl rfl rfl rfl ?_
  refine rll rfl rfl rfl rfl rfl rfl ?_
  refine raI rfl rfl rfl rfl rfl ?_
  refine rNil ?_
  refine qSeq ?_
  refine wSeq ?_
  refine wSeq ?_
  refine wRegion ?_
  refine rmI rfl rfl rfl rfl rfl ?_
  refine rmI rfl rfl rfl rfl rfl ?_
  refine req rfl rfl rfl rfl rfl rfl ?_ (fun h => absurd (by decide) h)
  intro h6_2
  refine rNil ?_
  refine qSeq ?_
  refine wT rfl ?_
  refine wSeq ?_
  refine wRegion ?_
  refine rmN rfl rfl rfl rfl rfl ?_
  refine rmV rfl rfl rfl rfl rfl ?_
  (apply ran (s' := 64)  rfl rfl rfl rfl (Nat.succ_ne_zero _); (first | rfl | (apply srcView rfl; (first | ((simp (disch := omega) only [↓app0, ↓appC, ↓updS, ↓updN, ↓hpS, ↓hpN]) <;> first | rfl | assumption) | assumption | rfl); (first | exact Nat.le_refl _ | omega); rfl)); (first | rfl | assumption | (focus (simp; done)) | (intro _ _; simp_all)); (first | omega | (focus (simp only [List.length_cons, List.length_nil]; omega)) | exact Nat.le_of_ble_eq_true rfl); (first | omega | (focus (simp only [List.length_cons, List.length_nil]; omega)) | exact Nat.le_of_ble_eq_true rfl); (first | omega | (focus (simp only [List.length_cons, List.length_nil]; omega)) | exact Nat.le_of_ble_eq_true rfl); rfl; rfl; rfl)
  refine raV rfl rfl rfl rfl rfl ?_
  refine rNil ?_
  refine qSeq ?_
  refine wRet ?_
  refine qSeqR ?_
  exact finO rfl rfl (leWr (by
    intro j hj
    simp only [List.map_cons, List.map_nil, List.mem_cons, List.not_mem_nil, or_false] at hj
    rcases hj with rfl <;> (simp (disch := omega) only [↓app0, ↓appC, ↓updS, ↓updN]) <;> first | rfl | (fail)) (fun j hj hn => by
    simp only [List.map_cons, List.map_nil, List.mem_cons, List.not_mem_nil, or_false, not_or] at hn
    simp (disch := omega) only [↓app0, ↓appC, ↓updS, ↓updN])) (Nat.le_refl _)
theorem o43v (L : List Sn) (s : Sn) (hL : L.length ≤ 900) {sb v1 : Nat} {h : Heap} {n : Nat} (hs : sb < n) (hv : v1 < n) (hne : sb ≠ v1) (k0 : h sb = some ⟨L.map Sn.V, 6, 79⟩) (k1 : h v1 = some ⟨[s.V], 6, 79⟩) :
    V.Open En 43 [.view sb 0 L.length, .int .i64 L.length, .view v1 0 1] h n (.view n 0 (L.length + 1)) [(sb, none), (n, some ⟨(L ++ [s]).map Sn.V, 6, 79⟩)] (n + 1) := by
  unfold Sn.V at k1
  refine V.Open.of_wp Try.func43 rfl (Nat.le_of_ble_eq_true rfl) ?_
  refine wSeq ?_
  refine wRegion ?_
  refine raN rfl rfl rfl rfl rfl ?_
  refine rNil ?_
  refine qSeq ?_
  refine wSeq ?_
  refine wRegion ?_
  refine rmV rfl rfl rfl rfl rfl ?_
  refine rmI rfl rfl rfl rfl rfl ?_
  (apply rslv rfl rfl rfl; (first | ((simp (disch := omega) only [↓app0, ↓appC, ↓updS, ↓updN, ↓hpS, ↓hpN]) <;> first | rfl | assumption) | assumption | rfl); rfl; rfl; rfl; (first | omega | assumption | (focus (simp; omega))); (first | omega | assumption | (focus (simp; omega))); (first | omega | assumption | (focus (simp; omega))); rfl; rfl; rfl)
  refine rNil ?_
  refine qSeq ?_
  refine wSeq ?_
  refine wRegion ?_
  refine rmV rfl rfl rfl rfl rfl ?_
  refine rll rfl rfl rfl rfl rfl rfl ?_
  refine raI rfl rfl rfl rfl rfl ?_
  refine rNil ?_
  refine qSeq ?_
  refine wSeq ?_
  refine wSeq ?_
  refine wRegion ?_
  refine rmI rfl rfl rfl rfl rfl ?_
  refine req rfl rfl rfl rfl rfl rfl (fun h => absurd h (by decide)) ?_
  intro h3_1
  refine rNil ?_
  refine qSeq ?_
  refine wF rfl ?_
  refine wSkip ?_
  refine qSeq ?_
  refine wSeq ?_
  refine wRegion ?_
  refine rmV rfl rfl rfl rfl rfl ?_
  refine rll rfl rfl rfl rfl rfl rfl ?_
  refine raI rfl rfl rfl rfl rfl ?_
  refine rNil ?_
  refine qSeq ?_
  refine wSeq ?_
  refine wSeq ?_
  refine wRegion ?_
  refine rmI rfl rfl rfl rfl rfl ?_
  refine rmI rfl rfl rfl rfl rfl ?_
  refine req rfl rfl rfl rfl rfl rfl ?_ (fun h => absurd (rfl) h)
  intro h6_2
  refine rNil ?_
  refine qSeq ?_
  refine wT rfl ?_
  refine wSeq ?_
  refine wRegion ?_
  refine rmV rfl rfl rfl rfl rfl ?_
  refine rmV rfl rfl rfl rfl rfl ?_
  (apply rap (s' := 48)  rfl rfl; (first | ((simp (disch := omega) only [↓app0, ↓appC, ↓updS, ↓updN, ↓hpS, ↓hpN]) <;> first | rfl | assumption) | assumption | rfl); rfl; rfl; (first | rfl | omega | (show _ = (List.map Sn.V L).length; rw [List.length_map]; omega)); rfl; rfl; exact (Nat.succ_ne_zero _); (first | rfl | (apply srcView rfl; (first | ((simp (disch := omega) only [↓app0, ↓appC, ↓updS, ↓updN, ↓hpS, ↓hpN]) <;> first | rfl | assumption) | assumption | rfl); (first | exact Nat.le_refl _ | omega); rfl)); (first | rfl | assumption | (focus (simp; done)) | (intro _ _; simp_all)); (first | omega | (focus (simp only [List.length_cons, List.length_nil]; omega)) | ((show (_ + 1) * _ ≤ _); omega) | ((show _ + 1 ≤ _); omega)); (first | omega | (focus (simp only [List.length_cons, List.length_nil]; omega)) | ((show (_ + 1) * _ ≤ _); omega) | ((show _ + 1 ≤ _); omega)); rfl; rfl; rfl)
  refine raV rfl rfl rfl rfl rfl ?_
  refine rNil ?_
  refine qSeq ?_
  refine wRet ?_
  refine qSeqR ?_
  exact finO rfl rfl (leWr (by
    intro j hj
    simp only [List.map_cons, List.map_nil, List.mem_cons, List.not_mem_nil, or_false] at hj
    rcases hj with rfl | rfl <;> (simp (disch := omega) only [↓app0, ↓appC, ↓updS, ↓updN]) <;> first | rfl | (exact congrArg (fun z => some (Blk.mk z 6 79)) (by simp only [List.map_append]; rfl))) (fun j hj hn => by
    simp only [List.map_cons, List.map_nil, List.mem_cons, List.not_mem_nil, or_false, not_or] at hn
    simp (disch := omega) only [↓app0, ↓appC, ↓updS, ↓updN])) (Nat.le_refl _)

theorem p20 : Pure En 20 [] [.agg [.int .i64 0, .int .i64 1, .nsl, .nsl]] := by
  refine Pure.of_wp Try.func20 rfl (Nat.le_of_ble_eq_true rfl) ?_
  refine wSeq ?_
  refine wRegion ?_
  refine ral rfl rfl rfl rfl rfl rfl ?_
  refine rNil ?_
  refine qSeq ?_
  refine wSeq ?_
  refine wRegion ?_
  refine rbd (cs := [.int _ _, .int _ _, _, _]) rfl rfl rfl rfl rfl ?_
  refine rst (u := .agg [.int _ _, .int _ _, _, _]) rfl rfl rfl rfl rfl rfl rfl rfl rfl (Nat.le_of_ble_eq_true rfl) rfl rfl rfl ?_
  refine rNil ?_
  refine qSeq ?_
  refine wRet ?_
  exact fin rfl rfl

end Go.Proofs.Ytnkpjlpappmccaa
