import Derived.Test.YtnkpjlpappmccaaE14
namespace Go.Proofs.Ytnkpjlpappmccaa
open Go.V
set_option linter.unusedVariables false
set_option linter.unusedSimpArgs false
set_option maxRecDepth 20000
set_option maxHeartbeats 4000000

/-! The rounds of the law: at round i client i holds the lock, those behind it wait. -/
def wsR (le : Nat → Int) (N i : Nat) : List Wt := (List.range (N - 1 - i)).map fun j => (((i + 1 + j : Nat) : Int), le (i + 1 + j))
def lkR (le : Nat → Int) (N i : Nat) : Lk := if i < N then ⟨lockNm, ((i + 1 : Nat) : Int), ((i : Nat) : Int), 0 + le i, wsR le N i⟩ else ⟨lockNm, ((N : Nat) : Int), -1, 0, []⟩
def nxR (N i : Nat) : Int := if i < N then ((i + 2 : Nat) : Int) else ((N + 1 : Nat) : Int)
def invR (N i : Nat) (S : List Sn) : Prop := S.length = N ∧ (∀ j, j < N → (S.getD j Sn0).cl = j) ∧ (∀ j, i ≤ j → j < N → (S.getD j Sn0).st = 1) ∧ ∀ j, j < N → (S.getD j Sn0).OK
theorem lkR_lt (le : Nat → Int) {N i : Nat} (h : i < N) : lkR le N i = ⟨lockNm, ((i + 1 : Nat) : Int), ((i : Nat) : Int), 0 + le i, wsR le N i⟩ := if_pos h
theorem lkR_end (le : Nat → Int) (N : Nat) : lkR le N N = ⟨lockNm, ((N : Nat) : Int), -1, 0, []⟩ := if_neg (Nat.lt_irrefl _)
theorem lkR_nm (le : Nat → Int) (N i : Nat) : (lkR le N i).nm = lockNm := by unfold lkR; split <;> rfl
theorem wsR_length (le : Nat → Int) (N i : Nat) : (wsR le N i).length = N - 1 - i := by simp [wsR]
theorem lkR_ws (le : Nat → Int) (N i : Nat) (h : i ≤ N) : (lkR le N i).ws = wsR le N i := by
  unfold lkR; split
  · rfl
  · have : N - 1 - i = 0 := by omega
    simp [wsR, this]
theorem wsR_get (le : Nat → Int) {N i j : Nat} (h : j < N - 1 - i) : (wsR le N i).getD j (0, 0) = (((i + 1 + j : Nat) : Int), le (i + 1 + j)) := by simp [wsR, h]
theorem wsR_cons (le : Nat → Int) {N i : Nat} (h : i + 1 < N) : wsR le N i = (((i + 1 : Nat) : Int), le (i + 1)) :: wsR le N (i + 1) := by
  have e : N - 1 - i = (N - 1 - (i + 1)) + 1 := by omega
  unfold wsR
  rw [e, List.range_succ_eq_map, List.map_cons, List.map_map]
  refine congrArg (List.cons _) (List.map_congr_left fun j _ => ?_)
  show (((i + 1 + (j + 1) : Nat) : Int), le (i + 1 + (j + 1))) = (((i + 1 + 1 + j : Nat) : Int), le (i + 1 + 1 + j))
  rw [show i + 1 + (j + 1) = i + 1 + 1 + j by omega]
theorem wsR_last (le : Nat → Int) {N i : Nat} (h : i + 1 = N) : wsR le N i = [] := by
  have : N - 1 - i = 0 := by omega
  simp [wsR, this]
theorem wsR_wix (le : Nat → Int) (N i : Nat) : wix ((i : Nat) : Int) (wsR le N i) = -1 := by
  refine wix_none fun j hj => ?_
  rw [wsR_length] at hj
  rw [wsR_get le hj]; dsimp only; omega
theorem lkR_zero (le : Nat → Int) {N : Nat} (h : 0 < N) : lkR le N 0 = lkOf le N := by
  rw [lkR_lt le h]
  unfold lkOf wsR wsOf
  rw [show N - 1 - 0 = N - 1 by omega]
  refine congrArg (Lk.mk lockNm 1 ((0 : Nat) : Int) (0 + le 0)) (List.map_congr_left fun j _ => ?_)
  rw [show 0 + 1 + j = j + 1 by omega]
theorem anOfOK (le : Nat → Int) (hle : ∀ i, 1 ≤ le i ∧ le i ≤ 100) (j : Nat) : (anOf le j).OK := by
  have := hle 0
  unfold anOf An.OK
  dsimp only
  refine ⟨?_, ?_, ?_, ?_⟩ <;> first | omega | (split <;> omega)
theorem inv0 (le : Nat → Int) (hle : ∀ i, 1 ≤ le i ∧ le i ≤ 100) {N : Nat} (hN : N ≤ 4) : invR N 0 (snL le N) := by
  refine ⟨snL_length le N, fun j hj => by rw [snL_get le hj]; rfl, fun j _ hj => by rw [snL_get le hj]; rfl, fun j hj => ?_⟩
  rw [snL_get le hj]
  refine ⟨?_, ?_, anOfOK le hle j⟩ <;> dsimp only [snOf] <;> omega
theorem okR (le : Nat → Int) (hle : ∀ i, 1 ≤ le i ∧ le i ≤ 100) {N i : Nat} (hN : 2 ≤ N ∧ N ≤ 4) (hi : i ≤ N) {S : List Sn} (hS : invR N i S) : (Tb.mk 0 (nxR N i) [lkR le N i] S).OK := by
  obtain ⟨h1, h2, h3, h4⟩ := hS
  have hnx : (i + 1 : Int) ≤ nxR N i ∧ nxR N i ≤ 6 ∧ (i < N → nxR N i = i + 2) ∧ (i = N → nxR N i = N + 1) := by
    unfold nxR; split <;> refine ⟨?_, ?_, ?_, ?_⟩ <;> omega
  refine ⟨by dsimp only; decide, by dsimp only; omega, Nat.le_of_ble_eq_true rfl, by dsimp only; omega, fun k hk => ?_, fun k hk => ?_⟩
  · have hk0 : k = 0 := by have hk : k < 1 := hk; omega
    subst hk0
    refine ⟨?_, fun h => absurd h (Nat.lt_irrefl _)⟩
    show (lkR le N i).OK (nxR N i)
    rcases Nat.lt_or_ge i N with hlt | hge
    · rw [lkR_lt le hlt]
      have hli := hle i
      refine ⟨opLock, ?_, ?_, ?_, ?_, fun h => ?_, fun j hj => ?_⟩
      · dsimp only; omega
      · dsimp only; omega
      · dsimp only; omega
      · dsimp only; rw [wsR_length]; omega
      · dsimp only at h; omega
      · dsimp only at hj
        rw [wsR_length] at hj
        unfold wOK
        dsimp only
        rw [wsR_get le hj]
        have hlj := hle (i + 1 + j)
        refine ⟨by dsimp only; omega, by dsimp only; omega, by dsimp only; omega, fun q hq => ?_⟩
        rw [wsR_get le (by omega)]; dsimp only; omega
    · have hiN : i = N := by omega
      subst hiN
      rw [lkR_end]
      refine ⟨opLock, by dsimp only; omega, by dsimp only; decide, by dsimp only; decide, Nat.zero_le _, fun _ => ⟨rfl, rfl⟩, fun j hj => absurd hj (Nat.not_lt_zero _)⟩
  · have hk : k < S.length := hk
    rw [h1] at hk
    refine ⟨h4 k hk, fun hk0 => ?_⟩
    show (S.getD (k - 1) Sn0).cl < (S.getD k Sn0).cl
    rw [h2 k hk, h2 (k - 1) (by omega)]; omega
theorem getD_set {α : Type} (d : α) (L : List α) (i : Nat) (x : α) (j : Nat) : (L.set i x).getD j d = if i = j then (if j < L.length then x else d) else L.getD j d := by
  rw [List.getD_eq_getElem?_getD, List.getElem?_set, List.getD_eq_getElem?_getD]
  split
  · subst_vars; split <;> rfl
  · rfl
theorem invS {N i : Nat} {S : List Sn} (hS : invR N i S) (hi : i < N) (hN : N ≤ 4) (a : An) (ha : a.OK) : invR N (i + 1) (S.set i ⟨(i : Nat), 2, a⟩) := by
  obtain ⟨h1, h2, h3, h4⟩ := hS
  refine ⟨by rw [List.length_set]; exact h1, fun j hj => ?_, fun j hj hjN => ?_, fun j hj => ?_⟩ <;> rw [getD_set, h1]
  · split
    · rename_i e; subst e; rfl
    · exact h2 j hj
  · rw [if_neg (by omega)]; exact h3 j (by omega) hjN
  · split
    · rename_i e; subst e
      exact ⟨by dsimp only; omega, by dsimp only; decide, ha⟩
    · exact h4 j hj
theorem rqR (i : Nat) (hi : i ≤ 4) : (Rq.mk (i : Nat) 2 2 0 lockNm).OK := by
  refine ⟨?_, ?_, ?_, ?_, opLock, ?_⟩ <;> dsimp only <;> omega
def tbR (le : Nat → Int) (N i : Nat) (S : List Sn) : List _root_.Go.V.T := [.int .i64 0, .int .i64 (nxR N i), .sl true [(lkR le N i).T2], .sl true (S.map Sn.T)]
theorem p12R (le : Nat → Int) (hle : ∀ i, 1 ≤ le i ∧ le i ≤ 100) {N i : Nat} (hN : 2 ≤ N ∧ N ≤ 4) (hi : i ≤ N) {S : List Sn} (hS : invR N i S) : Pure En 12 [.agg (tbR le N i S), .one (.str lockNm)] [.agg (lkR le N i).T2, .one (.int .i64 0)] := by
  have h := p12 true (nxR N i) (lkR le N i) S (by rw [lkR_nm]; decide) (okR le hle hN hi hS) (by rw [lkR_ws le N i hi, wsR_length]; omega) (by rw [hS.1]; omega)
  rw [lkR_nm] at h; exact h
theorem p13R (le : Nat → Int) (hle : ∀ i, 1 ≤ le i ∧ le i ≤ 100) {N i : Nat} (hN : 2 ≤ N ∧ N ≤ 4) (hi : i < N) {S : List Sn} (hS : invR N i S) :
    ∃ a : List Sn × An, (invR N (i + 1) a.1 ∧ a.2.kd = 1) ∧ Pure En 13 [.agg (tbR le N i S), .one (.int .i64 0), .agg (Rq.mk (i : Nat) 2 2 0 lockNm).T] [.agg (tbR le N (i + 1) a.1), .agg a.2.T, .one (.int .i64 0)] := by
  have hok := okR le hle hN (Nat.le_of_lt hi) hS
  have hnx : nxR N i = ((i + 2 : Nat) : Int) := if_pos hi
  have hli := hle i
  rw [lkR_lt le hi] at hok
  rcases Nat.lt_or_ge (i + 1) N with h1 | h1
  · have hl2 := hle (i + 1)
    have hc := wsR_cons le h1
    have hx := wsR_wix le N i
    have hlen := wsR_length le N i
    have h := p13s true ⟨lockNm, ((i + 1 : Nat) : Int), ((i : Nat) : Int), 0 + le i, wsR le N i⟩ (((i + 1 : Nat) : Int), le (i + 1)) (wsR le N (i + 1)) (by dsimp only; omega) (nxR N i) i S hok (rqR i (by omega)) (by rw [hS.1]; omega) (by rw [hS.1]; exact hi) (fun j hj => hS.2.1 j (by rw [← hS.1]; exact hj)) (hS.2.2.1 i (Nat.le_refl _) hi) rfl (by dsimp only; omega) hx (by rw [hnx]; omega) hc (by dsimp only; rw [hlen]; omega)
    refine ⟨(S.set i ⟨(i : Nat), 2, ⟨1, nxR N i, ((i + 1 : Nat) : Int), 0 + le (i + 1)⟩⟩, ⟨1, nxR N i, ((i + 1 : Nat) : Int), 0 + le (i + 1)⟩), ⟨invS hS hi hN.2 _ ?_, rfl⟩, ?_⟩
    · refine ⟨?_, ?_, ?_, ?_⟩ <;> dsimp only <;> omega
    · unfold tbR
      rw [lkR_lt le hi, lkR_lt le h1, show nxR N (i + 1) = nxR N i + 1 by rw [hnx, show nxR N (i + 1) = ((i + 1 + 2 : Nat) : Int) from if_pos h1]; omega, show ((i + 1 + 1 : Nat) : Int) = nxR N i by rw [hnx]]
      exact h
  · have hl := wsR_last le (show i + 1 = N by omega)
    have h := p13r true ⟨lockNm, ((i + 1 : Nat) : Int), ((i : Nat) : Int), 0 + le i, wsR le N i⟩ (nxR N i) i S hok (rqR i (by omega)) (by rw [hS.1]; omega) (by rw [hS.1]; exact hi) (fun j hj => hS.2.1 j (by rw [← hS.1]; exact hj)) (hS.2.2.1 i (Nat.le_refl _) hi) rfl (by dsimp only; omega) (wsR_wix le N i) (by rw [hnx]; omega) hl
    refine ⟨(S.set i ⟨(i : Nat), 2, ⟨1, ((i + 1 : Nat) : Int), -1, 0⟩⟩, ⟨1, ((i + 1 : Nat) : Int), -1, 0⟩), ⟨invS hS hi hN.2 _ ?_, rfl⟩, ?_⟩
    · refine ⟨?_, ?_, ?_, ?_⟩ <;> dsimp only <;> omega
    · have hiN : N = i + 1 := by omega
      subst hiN
      unfold tbR
      rw [lkR_lt le hi, lkR_end, show nxR (i + 1) (i + 1) = nxR (i + 1) i by rw [hnx]; exact if_neg (Nat.lt_irrefl _)]
      exact h

end Go.Proofs.Ytnkpjlpappmccaa
