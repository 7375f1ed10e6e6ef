import Derived.Test.YtknnniaoboaghaaA6
namespace Go.Proofs.Ytknnniaoboaghaa
open Go.V
set_option linter.unusedVariables false
set_option linter.unusedSimpArgs false
set_option maxRecDepth 20000
set_option maxHeartbeats 4000000

/-! The law's own: tables marked. -/
/-- The count before a lock is marked; the locks marked. -/
def kL (k : Int) : List Lk → Int
  | [] => k
  | l :: r => kL (k + 4 + 2 * (l.ws.length : Int)) r
theorem kL_snoc (k : Int) : ∀ (L : List Lk) (l : Lk), kL k (L ++ [l]) = kL k L + 4 + 2 * (l.ws.length : Int)
  | [], l => rfl
  | a :: r, l => kL_snoc (k + 4 + 2 * (a.ws.length : Int)) r l
theorem kL_take {k : Int} {L : List Lk} {i : Nat} (h : i < L.length) : kL k (L.take (i + 1)) = kL k (L.take i) + 4 + 2 * ((L.getD i Lk0).ws.length : Int) := by
  have e3 : L.take (i + 1) = L.take i ++ [L.getD i Lk0] := by rw [List.take_add_one]; simp [h]
  rw [e3, kL_snoc]
noncomputable def mLk (y : Int) (m : Nat) : Lk := ⟨Mt y, y + 1, y + 1 + 1, y + 1 + 1 + 1, MW (y + 1 + 1 + 1 + 1) m⟩
noncomputable def ML (k : Int) (L : List Lk) : List Lk := (List.range L.length).map fun i => mLk (kL k (L.take i)) (L.getD i Lk0).ws.length
theorem ML_len (k : Int) (L : List Lk) : (ML k L).length = L.length := by simp [ML]
theorem ML_get {k : Int} {L : List Lk} {i : Nat} (h : i < L.length) : (ML k L).getD i Lk0 = mLk (kL k (L.take i)) (L.getD i Lk0).ws.length := by simp [ML, List.getD_eq_getElem?_getD, h]
theorem mixL {k : Int} {L : List Lk} {i j : Nat} (hi : i ≤ L.length) : (mix (ML k L) L i).getD j Lk0 = if j < i then (ML k L).getD j Lk0 else L.getD j Lk0 := mix_get Lk0 (ML_len k L) hi
theorem rwGet {w : Nat → Nat} {L : List Lk} {i : Nat} {r : List V} (h : i < L.length) (e : rwV w L i = r) : (lkR w L)[0 + i]? = some r := by rw [Nat.zero_add, lkR_get w L h, e]
theorem rwSet {w : Nat → Nat} {k : Int} {L : List Lk} {i : Nat} {z : List V} (h : i < L.length) (e : rwV w (ML k L) i = z) : (lkR w (mix (ML k L) L i)).set (0 + i) z = lkR w (mix (ML k L) L (i + 1)) := by
  subst e
  apply List.ext_getElem?
  intro j
  rw [Nat.zero_add, List.getElem?_set]
  by_cases hj : j < L.length
  · have h1 := lkR_get w (mix (ML k L) L i) (i := j) (by rw [mix_len (ML_len k L) (by omega)]; exact hj)
    have h2 := lkR_get w (mix (ML k L) L (i + 1)) (i := j) (by rw [mix_len (ML_len k L) (by omega)]; exact hj)
    rw [h1, h2]
    have g1 := mixL (k := k) (L := L) (i := i) (j := j) (by omega)
    have g2 := mixL (k := k) (L := L) (i := i + 1) (j := j) (by omega)
    unfold rwV
    rw [g1, g2]
    by_cases e : i = j
    · subst e
      rw [if_pos rfl, if_pos (by rw [lkR_len, mix_len (ML_len k L) (by omega)]; exact h), if_pos (by omega)]
    · rw [if_neg e]
      by_cases h3 : j < i
      · rw [if_pos h3, if_pos (by omega)]
      · rw [if_neg h3, if_neg (by omega)]
  · rw [if_neg (by omega), List.getElem?_eq_none (by rw [lkR_len, mix_len (ML_len k L) (by omega)]; omega), List.getElem?_eq_none (by rw [lkR_len, mix_len (ML_len k L) (by omega)]; omega)]
theorem wsMix {k : Int} {L : List Lk} {i j : Nat} (hi : i ≤ L.length) : wsF (mix (ML k L) L i) j = if j < i then wsF (ML k L) j else wsF L j := by
  unfold wsF
  rw [mixL hi]
  split <;> rfl
theorem wsML {k : Int} {L : List Lk} {i : Nat} (h : i < L.length) : wsF (ML k L) i = some ⟨(MW (kL k (L.take i) + 1 + 1 + 1 + 1) (L.getD i Lk0).ws.length).map wtV, 2, 123⟩ := by
  unfold wsF; rw [ML_get h]; rfl
theorem rwML {w : Nat → Nat} {k : Int} {L : List Lk} {i : Nat} (h : i < L.length) : rwV w (ML k L) i = [.str (Mt (kL k (L.take i))), .int .i64 (kL k (L.take i) + 1), .int .i64 (kL k (L.take i) + 1 + 1), .int .i64 (kL k (L.take i) + 1 + 1 + 1), .view (w i) 0 (L.getD i Lk0).ws.length] := by
  unfold rwV; rw [ML_get h]
  show [V.str _, _, _, _, V.view (w i) 0 (MW _ _).length] = _
  rw [MW_len]; rfl
theorem mixSame {k : Int} {L : List Lk} {i : Nat} (h : i < L.length) : (mix (ML k L) L i).getD i Lk0 = L.getD i Lk0 := by rw [mixL (by omega), if_neg (Nat.lt_irrefl _)]
theorem o53 (L : List Lk) (w : Nat → Nat) (k : Int) (hk : 0 ≤ k ∧ k ≤ 1000000) (hL : L.length ≤ 1048577) (hW : ∀ i, i < L.length → (L.getD i Lk0).ws.length ≤ 1048577) (hinj : ∀ i j, i < L.length → j < L.length → w i = w j → i = j) {id : Nat} {h : Heap} {n : Nat} (hid : id < n) (hlw : ∀ i, i < L.length → w i ≠ id) (hwn : ∀ i, i < L.length → w i < n)
    (k1 : h id = some ⟨lkR w L, 5, 29⟩) (kf : ∀ i, i < L.length → h (w i) = wsF L i) :
    V.Open En 53 [.view id 0 L.length, .int .i64 k] h n (.int .i64 (kL k L)) ([(id, some ⟨lkR w (ML k L), 5, 29⟩)] ++ famL w (wsF (ML k L)) L.length) n := by
  have hlw1 : ∀ i, i < L.length → id ≠ w i := fun i h e => hlw i h e.symm
  refine V.Open.fresh rfl (Nat.le_refl _) fun hz => ?_
  refine V.Open.of_wp Try.func53 rfl (Nat.le_of_ble_eq_true rfl) ?_
  refine wSeq ?_
  refine wRegion ?_
  refine raI rfl rfl rfl rfl rfl ?_
  refine rNil ?_
  refine qSeq ?_
  refine wSeq ?_
  refine wSeq ?_
  refine wRegion ?_
  refine raI rfl rfl rfl rfl rfl ?_
  refine rNil ?_
  refine qSeq ?_
  refine wBlock ?_
  refine wLoop ?_
  refine loopGo (fun (a : Nat × Int) => [.view id 0 L.length, .int .i64 a.2, .unk, .unk, .unk, .int .i64 a.1]) (fun (a : Nat × Int) => app ([(id, some ⟨lkR w (mix (ML k L) L a.1), 5, 29⟩)] ++ famL w (wsF (mix (ML k L) L a.1)) L.length) h) (fun (a : Nat × Int) => n) (fun (a : Nat × Int) => a.1 ≤ L.length ∧ a.2 = kL k (L.take a.1) ∧ k ≤ a.2 ∧ a.2 ≤ k + 2097160 * (a.1 : Int)) (fun (a : Nat × Int) => L.length - a.1) (0, k) ?_ ?_ ?_ ?_ ?_
  · exact ⟨Nat.zero_le _, by rw [List.take_zero]; rfl, by dsimp only; omega, by dsimp only; omega⟩
  · (repeat first | exact LE.nil _ | refine LE.unk _ _ ?_ | refine LE.eq _ _ _ rfl ?_)
  · dsimp only
    rw [mix_zero]
    refine lessFam (m := n) hz (fun j hj => ?_) (fun j hj => ?_) (fun j hl hf hn => rfl)
    · rw [famA hinj hj]; exact kf j hj
    · simp only [List.map_cons, List.map_nil, List.mem_cons, List.not_mem_nil, or_false] at hj
      rw [hj]
      refine Eq.trans ?_ (famAO hlw).symm
      (simp (disch := omega) only [↓app0, ↓appC, ↓updS, ↓updN, ↓hpS, ↓hpN])
      exact k1
  · exact Nat.le_refl _
  intro ⟨i, y⟩ hI ih
  dsimp only at hI ⊢
  have hml := mix_len (i := i) (ML_len k L) hI.1
  have hx := fun h : i < L.length => kL_take (k := k) h
  have hy : y = kL k (L.take i) := hI.2.1
  have hwi := fun h : i < L.length => hW i h
  refine lStep ?_
  refine wSeq ?_
  refine wSeq ?_
  refine wRegion ?_
  refine rmI rfl rfl rfl rfl rfl ?_
  refine rmV rfl rfl rfl rfl rfl ?_
  refine rll rfl rfl rfl rfl rfl rfl ?_
  refine rlt rfl rfl rfl rfl rfl rfl ?_ ?_ <;> intro h2_3
  · refine rNil ?_
    refine qSeq ?_
    refine wT rfl ?_
    refine wSkip ?_
    refine qSeq ?_
    refine wSeq ?_
    refine wBlock ?_
    refine wSeq ?_
    refine wRegion ?_
    refine rmV rfl rfl rfl rfl rfl ?_
    refine rmI rfl rfl rfl rfl rfl ?_
    refine rmI rfl rfl rfl rfl rfl ?_
    refine rcl (q94 _ (by omega)) rfl rfl rfl rfl rfl rfl ?_
    (apply rixv rfl rfl rfl rfl; (first | ((simp (disch := (first | omega | assumption | (apply hlw; omega) | (apply hlw1; omega))) only [↓appC, ↓updN, ↓updS, ↓app0, ↓famAO]) <;> first | rfl | assumption) | assumption | rfl); rfl; (first | omega | assumption | (focus (simp; omega))); (first | omega | assumption | (focus (simp; omega))); rfl; rfl; rfl)
    refine rfa (off := 0) (s := 1) (r := false) rfl rfl rfl (Nat.succ_ne_zero _) rfl rfl rfl ?_
    (apply rst (u := .str _) rfl rfl rfl; (first | ((simp (disch := (first | omega | assumption | (apply hlw; omega) | (apply hlw1; omega))) only [↓appC, ↓updN, ↓updS, ↓app0, ↓famAO]) <;> first | rfl | assumption) | assumption | rfl); exact rwGet (i := i) (r := (L.getD i Lk0).V (.view (w i) 0 (L.getD i Lk0).ws.length)) (by rw [hml]; omega) (by unfold rwV; rw [mixSame (by omega)]); rfl; rfl; rfl; rfl; (exact Nat.le_of_ble_eq_true rfl); rfl; rfl; rfl)
    refine rNil ?_
    refine qSeq ?_
    refine wSeq ?_
    refine wRegion ?_
    refine rmI rfl rfl rfl rfl rfl ?_
    refine raddF rfl rfl rfl ?_ ?_ rfl rfl rfl ?_
    · omega
    · omega
    refine raI rfl rfl rfl rfl rfl ?_
    refine rNil ?_
    refine qSeq ?_
    refine wSeq ?_
    refine wRegion ?_
    refine rmV rfl rfl rfl rfl rfl ?_
    refine rmI rfl rfl rfl rfl rfl ?_
    refine rmI rfl rfl rfl rfl rfl ?_
    (apply rixv rfl rfl rfl rfl; (first | ((simp (disch := (first | omega | assumption | (apply hlw; omega) | (apply hlw1; omega))) only [↓appC, ↓updN, ↓updS, ↓app0, ↓famAO]) <;> first | rfl | assumption) | assumption | rfl); rfl; (first | omega | assumption | (focus (simp; omega))); (first | omega | assumption | (focus (simp; omega))); rfl; rfl; rfl)
    refine rfa (off := 1) (s := 1) (r := false) rfl rfl rfl (Nat.succ_ne_zero _) rfl rfl rfl ?_
    (apply rst (u := .int _ _) rfl rfl rfl; (first | ((simp (disch := (first | omega | assumption | (apply hlw; omega) | (apply hlw1; omega))) only [↓appC, ↓updN, ↓updS, ↓app0, ↓famAO]) <;> first | rfl | assumption) | assumption | rfl); exact gsS (by (try simp only [List.length_set]); rw [lkR_len, hml]; omega); rfl; rfl; rfl; rfl; (exact Nat.le_of_ble_eq_true rfl); rfl; rfl; rfl)
    refine rNil ?_
    refine qSeq ?_
    refine wSeq ?_
    refine wRegion ?_
    refine rmI rfl rfl rfl rfl rfl ?_
    refine raddF rfl rfl rfl ?_ ?_ rfl rfl rfl ?_
    · omega
    · omega
    refine raI rfl rfl rfl rfl rfl ?_
    refine rNil ?_
    refine qSeq ?_
    refine wSeq ?_
    refine wRegion ?_
    refine rmV rfl rfl rfl rfl rfl ?_
    refine rmI rfl rfl rfl rfl rfl ?_
    refine rmI rfl rfl rfl rfl rfl ?_
    (apply rixv rfl rfl rfl rfl; (first | ((simp (disch := (first | omega | assumption | (apply hlw; omega) | (apply hlw1; omega))) only [↓appC, ↓updN, ↓updS, ↓app0, ↓famAO]) <;> first | rfl | assumption) | assumption | rfl); rfl; (first | omega | assumption | (focus (simp; omega))); (first | omega | assumption | (focus (simp; omega))); rfl; rfl; rfl)
    refine rfa (off := 2) (s := 1) (r := false) rfl rfl rfl (Nat.succ_ne_zero _) rfl rfl rfl ?_
    (apply rst (u := .int _ _) rfl rfl rfl; (first | ((simp (disch := (first | omega | assumption | (apply hlw; omega) | (apply hlw1; omega))) only [↓appC, ↓updN, ↓updS, ↓app0, ↓famAO]) <;> first | rfl | assumption) | assumption | rfl); exact gsS (by (try simp only [List.length_set]); rw [lkR_len, hml]; omega); rfl; rfl; rfl; rfl; (exact Nat.le_of_ble_eq_true rfl); rfl; rfl; rfl)
    refine rNil ?_
    refine qSeq ?_
    refine wSeq ?_
    refine wRegion ?_
    refine rmI rfl rfl rfl rfl rfl ?_
    refine raddF rfl rfl rfl ?_ ?_ rfl rfl rfl ?_
    · omega
    · omega
    refine raI rfl rfl rfl rfl rfl ?_
    refine rNil ?_
    refine qSeq ?_
    refine wSeq ?_
    refine wRegion ?_
    refine rmV rfl rfl rfl rfl rfl ?_
    refine rmI rfl rfl rfl rfl rfl ?_
    refine rmI rfl rfl rfl rfl rfl ?_
    (apply rixv rfl rfl rfl rfl; (first | ((simp (disch := (first | omega | assumption | (apply hlw; omega) | (apply hlw1; omega))) only [↓appC, ↓updN, ↓updS, ↓app0, ↓famAO]) <;> first | rfl | assumption) | assumption | rfl); rfl; (first | omega | assumption | (focus (simp; omega))); (first | omega | assumption | (focus (simp; omega))); rfl; rfl; rfl)
    refine rfa (off := 3) (s := 1) (r := false) rfl rfl rfl (Nat.succ_ne_zero _) rfl rfl rfl ?_
    (apply rst (u := .int _ _) rfl rfl rfl; (first | ((simp (disch := (first | omega | assumption | (apply hlw; omega) | (apply hlw1; omega))) only [↓appC, ↓updN, ↓updS, ↓app0, ↓famAO]) <;> first | rfl | assumption) | assumption | rfl); exact gsS (by (try simp only [List.length_set]); rw [lkR_len, hml]; omega); rfl; rfl; rfl; rfl; (exact Nat.le_of_ble_eq_true rfl); rfl; rfl; rfl)
    refine rNil ?_
    refine qSeq ?_
    refine wSeq ?_
    refine wRegion ?_
    refine rmI rfl rfl rfl rfl rfl ?_
    refine raddF rfl rfl rfl ?_ ?_ rfl rfl rfl ?_
    · omega
    · omega
    refine raI rfl rfl rfl rfl rfl ?_
    refine rNil ?_
    refine qSeq ?_
    refine wRegion ?_
    refine rmV rfl rfl rfl rfl rfl ?_
    refine rmI rfl rfl rfl rfl rfl ?_
    (apply rixv rfl rfl rfl rfl; (first | ((simp (disch := (first | omega | assumption | (apply hlw; omega) | (apply hlw1; omega))) only [↓appC, ↓updN, ↓updS, ↓app0, ↓famAO]) <;> first | rfl | assumption) | assumption | rfl); rfl; (first | omega | assumption | (focus (simp; omega))); (first | omega | assumption | (focus (simp; omega))); rfl; rfl; rfl)
    refine rfa (off := 4) (s := 1) (r := false) rfl rfl rfl (Nat.succ_ne_zero _) rfl rfl rfl ?_
    (apply rlc (v := .view (w i) 0 (L.getD i Lk0).ws.length) rfl rfl; (first | ((simp (disch := (first | omega | assumption | (apply hlw; omega) | (apply hlw1; omega))) only [↓appC, ↓updN, ↓updS, ↓app0, ↓famAO]) <;> first | rfl | assumption) | assumption | rfl); exact gsS (by (try simp only [List.length_set]); rw [lkR_len, hml]; omega); rfl; rfl; rfl; rfl; rfl)
    refine rmI rfl rfl rfl rfl rfl ?_
    refine rop (o55 (L.getD i Lk0).ws (y + 1 + 1 + 1 + 1) (by omega) (by have := hW i (by omega); omega) (id := w i) ?_ ?_) rfl rfl rfl rfl rfl rfl ?_
    · (first | (apply hwn; omega) | ((simp (disch := (first | omega | assumption | (apply hlw; omega) | (apply hlw1; omega))) only [↓appC, ↓updN, ↓updS, ↓app0, ↓famAO]); (try rw [famA hinj (by omega)]); (rw [wsMix (by omega), if_neg (Nat.lt_irrefl _)]); rfl))
    · (first | (apply hwn; omega) | ((simp (disch := (first | omega | assumption | (apply hlw; omega) | (apply hlw1; omega))) only [↓appC, ↓updN, ↓updS, ↓app0, ↓famAO]); (try rw [famA hinj (by omega)]); (rw [wsMix (by omega), if_neg (Nat.lt_irrefl _)]); rfl))
    refine raI rfl rfl rfl rfl rfl ?_
    refine rNil ?_
    refine qBlock ?_
    refine qSeq ?_
    refine wRegion ?_
    refine rmI rfl rfl rfl rfl rfl ?_
    refine raddF rfl rfl rfl ?_ ?_ rfl rfl rfl ?_
    · omega
    · omega
    refine raI rfl rfl rfl rfl rfl ?_
    refine rNil ?_
    refine qLoop ?_
    refine wlH (ih (i + 1, y + 1 + 1 + 1 + 1 + 2 * ((L.getD i Lk0).ws.length : Int)) ⟨by dsimp only; omega, by dsimp only; have := hx (by omega); omega, by dsimp only; omega, by dsimp only; have := hwi (by omega); omega⟩ (by dsimp only; omega)) (by (repeat first | exact LE.nil _ | refine LE.unk _ _ ?_ | refine LE.eq _ _ _ rfl ?_)) (by
      dsimp only
      refine lessFam (m := n) hz (fun j hj => ?_) (fun j hj => ?_) (fun j hl hf hn => ?_)
      · rw [famA hinj hj, wsMix (by omega)]
        by_cases e : j = i
        · rw [e, if_pos (by omega), wsML (by omega), ← hy]
          simp (disch := (first | omega | assumption | (apply hlw; omega) | (apply hlw1; omega))) only [↓appC, ↓updN, ↓updS, ↓app0, ↓famAO]
        · have e1 : w j ≠ w i := fun e2 => e (hinj j i hj (by omega) e2)
          have e3 := hlw j hj
          simp (disch := (first | omega | assumption | (apply hlw; omega) | (apply hlw1; omega))) only [↓appC, ↓updN, ↓updS, ↓app0, ↓famAO]
          rw [famA hinj hj, wsMix (by omega)]
          by_cases h4 : j < i
          · rw [if_pos h4, if_pos (by omega)]
          · rw [if_neg h4, if_neg (by omega)]
      · simp only [List.map_cons, List.map_nil, List.mem_cons, List.not_mem_nil, or_false] at hj
        rw [hj]
        refine Eq.trans ?_ (famAO hlw).symm
        have e3 := hlw i (by omega)
        have e4 : id ≠ w i := fun e => e3 e.symm
        simp (disch := (first | omega | assumption | (apply hlw; omega) | (apply hlw1; omega))) only [↓appC, ↓updN, ↓updS, ↓app0, ↓famAO]
        refine congrArg (fun z => some (Blk.mk z 5 29)) ?_
        simp only [List.set_set]
        exact rwSet (by omega) (by rw [rwML (by omega), ← hy]; rfl)
      · simp only [List.map_cons, List.map_nil, List.mem_cons, List.not_mem_nil, or_false] at hn
        have e1 : j ≠ w i := fun e => hf i (by omega) e.symm
        have e2 : ¬ j = id := hn
        simp (disch := first | omega | assumption) only [↓appC, ↓updN, ↓app0, ↓famAO]) (Nat.le_refl _)
  · refine rNil ?_
    refine qSeq ?_
    refine wF rfl ?_
    refine wExit ?_
    refine qSeqX ?_
    refine qLoopX ?_
    refine qBlockX ?_
    refine qSeq ?_
    refine wSeq ?_
    refine wRegion ?_
    refine rmI rfl rfl rfl rfl rfl ?_
    refine raI rfl rfl rfl rfl rfl ?_
    refine rNil ?_
    refine qSeq ?_
    refine wRet ?_
    obtain rfl : i = L.length := by omega
    refine finO rfl (congrArg (V.int .i64) (by rw [hy, List.take_length])) ?_ (Nat.le_refl _)
    rw [mix_full (ML_len k L)]
    exact fun _ _ _ e => e
end Go.Proofs.Ytknnniaoboaghaa
