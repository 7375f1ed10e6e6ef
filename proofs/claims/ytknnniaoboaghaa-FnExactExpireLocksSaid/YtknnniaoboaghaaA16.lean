import Derived.Test.YtknnniaoboaghaaA15
namespace Go.Proofs.Ytknnniaoboaghaa
open Go.V
set_option linter.unusedVariables false
set_option linter.unusedSimpArgs false
set_option maxRecDepth 20000
set_option maxHeartbeats 4000000

/-! Tables whose waiters begin behind some. -/
theorem snapWsP {h : Heap} {ids : List Nat} {r : Bool} {id m o : Nat} {Pr : List (List V)} {L : List Wt} (hid : id ∈ ids) (hb : h id = some ⟨Pr ++ L.map wtV, 2, 123⟩) (ho : o = Pr.length) (hm : m = L.length) : Snap h ids r (.view id o m) (.sl true (L.map wtT)) := by
  subst hm ho
  have e : ((Pr ++ L.map wtV).drop Pr.length).take L.length = L.map wtV := by rw [List.drop_left, List.take_of_length_le (by simp)]
  refine .view id _ _ _ _ hid hb (by simp) (by simp) (fun i x y h1 h2 => ?_) (fun i j x y h1 h2 => ?_)
  · dsimp only at h1
    rw [e] at h1
    by_cases hi : i < L.length
    · rw [getMap wtV (0, 0) hi] at h1; rw [getMap wtT (0, 0) hi] at h2
      cases h1; cases h2; rfl
    · rw [List.getElem?_eq_none (by simpa using Nat.not_lt.1 hi)] at h1; cases h1
  · dsimp only at h1
    rw [e] at h1
    unfold get2 at h1 h2
    by_cases hi : i < L.length
    · rw [getMap wtV (0, 0) hi] at h1; rw [getMap wtT (0, 0) hi] at h2
      match j with
      | 0 => cases h1; cases h2; exact .int _ _
      | 1 => cases h1; cases h2; exact .int _ _
      | j + 2 => exact absurd h1 nofun
    · rw [List.getElem?_eq_none (by simpa using Nat.not_lt.1 hi)] at h1; exact absurd h1 nofun
theorem snapLkP {h : Heap} {ids : List Nat} {r : Bool} {id m : Nat} {w : Nat → Nat} {P : Nat → List (List V)} {L : List Lk} (hid : id ∈ ids) (hb : h id = some ⟨lkP w P L, 5, 29⟩) (hm : m = L.length)
    (hw : ∀ i, i < L.length → w i ∈ ids) (hf : ∀ i, i < L.length → h (w i) = wsP P L i) : Snap h ids r (.view id 0 m) (.sl true (L.map (Lk.T true))) := by
  subst hm
  have e : ((lkP w P L).drop 0).take L.length = lkP w P L := by rw [List.drop_zero, List.take_of_length_le (by rw [lkP_len]; exact Nat.le_refl _)]
  have e2 : ∀ i, i < L.length → (L.map (Lk.T true))[i]? = some ((L.getD i Lk0).T true) := fun i h => getMap (Lk.T true) Lk0 h
  refine .view id 0 _ _ _ hid hb (by dsimp only; rw [lkP_len]; omega) (by simp) (fun i x y h1 h2 => ?_) (fun i j x y h1 h2 => ?_)
  · dsimp only at h1
    rw [e] at h1
    have hi : i < L.length := by have := (List.getElem?_eq_some_iff.1 h1).1; rw [lkP_len] at this; exact this
    rw [lkP_get w P L hi] at h1; rw [e2 i hi] at h2
    cases h1; cases h2; rfl
  · dsimp only at h1
    rw [e] at h1
    unfold get2 at h1 h2
    by_cases hi : i < L.length
    · rw [lkP_get w P L hi] at h1; rw [e2 i hi] at h2
      match j with
      | 0 => cases h1; cases h2; exact .str _
      | 1 => cases h1; cases h2; exact .int _ _
      | 2 => cases h1; cases h2; exact .int _ _
      | 3 => cases h1; cases h2; exact .int _ _
      | 4 => cases h1; cases h2; exact snapWsP (hw i hi) (hf i hi) rfl rfl
      | j + 5 => exact absurd h1 nofun
    · rw [show (lkP w P L)[i]? = none from List.getElem?_eq_none (by rw [lkP_len]; omega)] at h1; exact absurd h1 nofun
theorem snapTbP {h : Heap} {ids : List Nat} {r : Bool} {lb sb m1 m2 : Nat} {w : Nat → Nat} {P : Nat → List (List V)} {t : Tb} (hl : lb ∈ ids) (hs : sb ∈ ids) (hw : ∀ i, i < t.lk.length → w i ∈ ids)
    (k1 : h lb = some ⟨lkP w P t.lk, 5, 29⟩) (kf : ∀ i, i < t.lk.length → h (w i) = wsP P t.lk i) (k2 : h sb = some ⟨t.sn.map Sn.V, 6, 115⟩) (e1 : m1 = t.lk.length) (e2 : m2 = t.sn.length) :
    SnapA h ids r (.agg [.int .i64 t.tm, .int .i64 t.nx, .view lb 0 m1, .view sb 0 m2]) (.agg (t.T true true true)) :=
  SnapC.agg (.cons _ _ _ _ (.int _ _) (.cons _ _ _ _ (.int _ _) (.cons _ _ _ _ (snapLkP hl k1 e1 hw kf) (.cons _ _ _ _ (snapSn hs k2 e2) .nil))))
theorem getMP {α : Type} (f : α → List V) (d : α) {Pr : List (List V)} {X : List α} {i : Nat} (h : i < X.length) : (Pr ++ X.map f)[Pr.length + i]? = some (f (X.getD i d)) := by
  rw [List.getElem?_append_right (by omega), Nat.add_sub_cancel_left]; exact getMap f d h
theorem setMP {Pr X : List (List V)} {i : Nat} {z : List V} : (Pr ++ X).set (Pr.length + i) z = Pr ++ X.set (0 + i) z := by
  rw [List.set_append_right _ _ (by omega), Nat.add_sub_cancel_left, Nat.zero_add]
theorem gsP {es : List (List V)} {i : Nat} {x : List V} (h : i < es.length) : (es.set i x)[i]? = some x := List.getElem?_set_self h
theorem rwGetP {w : Nat → Nat} {P : Nat → List (List V)} {L : List Lk} {i : Nat} {r : List V} (h : i < L.length) (e : rwP w P L i = r) : (lkP w P L)[0 + i]? = some r := by rw [Nat.zero_add, lkP_get w P L h, e]
theorem rwSetP {w : Nat → Nat} {P : Nat → List (List V)} {k : Int} {L : List Lk} {i : Nat} {z : List V} (h : i < L.length) (e : rwP w P (ML k L) i = z) : (lkP w P (mix (ML k L) L i)).set (0 + i) z = lkP w P (mix (ML k L) L (i + 1)) := by
  subst e
  apply List.ext_getElem?
  intro j
  rw [Nat.zero_add, List.getElem?_set]
  by_cases hj : j < L.length
  · have h1 := lkP_get w P (mix (ML k L) L i) (i := j) (by rw [mix_len (ML_len k L) (by omega)]; exact hj)
    have h2 := lkP_get w P (mix (ML k L) L (i + 1)) (i := j) (by rw [mix_len (ML_len k L) (by omega)]; exact hj)
    rw [h1, h2]
    have g1 := mixL (k := k) (L := L) (i := i) (j := j) (by omega)
    have g2 := mixL (k := k) (L := L) (i := i + 1) (j := j) (by omega)
    unfold rwP
    rw [g1, g2]
    by_cases e : i = j
    · subst e
      rw [if_pos rfl, if_pos (by rw [lkP_len, mix_len (ML_len k L) (by omega)]; exact h), if_pos (by omega)]
    · rw [if_neg e]
      by_cases h3 : j < i
      · rw [if_pos h3, if_pos (by omega)]
      · rw [if_neg h3, if_neg (by omega)]
  · rw [if_neg (by omega), List.getElem?_eq_none (by rw [lkP_len, mix_len (ML_len k L) (by omega)]; omega), List.getElem?_eq_none (by rw [lkP_len, mix_len (ML_len k L) (by omega)]; omega)]
theorem wsMixP {P : Nat → List (List V)} {k : Int} {L : List Lk} {i j : Nat} (hi : i ≤ L.length) : wsP P (mix (ML k L) L i) j = if j < i then wsP P (ML k L) j else wsP P L j := by
  unfold wsP
  rw [mixL hi]
  split <;> rfl
theorem wsMLP {P : Nat → List (List V)} {k : Int} {L : List Lk} {i : Nat} (h : i < L.length) : wsP P (ML k L) i = some ⟨P i ++ (MW (kL k (L.take i) + 1 + 1 + 1 + 1) (L.getD i Lk0).ws.length).map wtV, 2, 123⟩ := by
  unfold wsP; rw [ML_get h]; rfl
theorem rwMLP {w : Nat → Nat} {P : Nat → List (List V)} {k : Int} {L : List Lk} {i : Nat} (h : i < L.length) : rwP w P (ML k L) i = [.str (Mt (kL k (L.take i))), .int .i64 (kL k (L.take i) + 1), .int .i64 (kL k (L.take i) + 1 + 1), .int .i64 (kL k (L.take i) + 1 + 1 + 1), .view (w i) (P i).length (L.getD i Lk0).ws.length] := by
  unfold rwP; rw [ML_get h]
  show [V.str _, _, _, _, V.view (w i) (P i).length (MW _ _).length] = _
  rw [MW_len]; rfl
theorem o55p (Pr : List (List V)) (L : List Wt) (k : Int) (hk : 0 ≤ k ∧ k ≤ 1125899906842624) (hL : L.length ≤ 1048577) {id : Nat} {h : Heap} {n : Nat} (hid : id < n) (k1 : h id = some ⟨Pr ++ L.map wtV, 2, 123⟩) :
    V.Open En 55 [.view id Pr.length L.length, .int .i64 k] h n (.int .i64 (k + 2 * (L.length : Int))) [(id, some ⟨Pr ++ (MW k L.length).map wtV, 2, 123⟩)] n := by
  have hMl : (MW k L.length).length = L.length := MW_len k L.length
  refine V.Open.fresh rfl (Nat.le_refl _) fun hz => ?_
  refine V.Open.of_wp Try.func55 rfl (Nat.le_of_ble_eq_true rfl) ?_
  refine wSeq ?_
  refine wRegion ?_
  refine raI rfl rfl rfl rfl rfl ?_
  refine rNil ?_
  refine qSeq ?_
  refine wSeq ?_
  refine wSeq ?_
  refine wRegion ?_
  refine raI rfl rfl rfl rfl rfl ?_
  refine rNil ?_
  refine qSeq ?_
  refine wBlock ?_
  refine wLoop ?_
  refine loopGo (fun (a : Nat × Int) => [.view id Pr.length L.length, .int .i64 a.2, .unk, .unk, .unk, .int .i64 a.1]) (fun (a : Nat × Int) => app [(id, some ⟨Pr ++ (mix (MW k L.length) L a.1).map wtV, 2, 123⟩)] h) (fun (a : Nat × Int) => n) (fun (a : Nat × Int) => a.1 ≤ L.length ∧ a.2 = k + 2 * (a.1 : Int)) (fun (a : Nat × Int) => L.length - a.1) (0, k) ?_ ?_ ?_ ?_ ?_
  · exact ⟨Nat.zero_le _, by dsimp only; omega⟩
  · (repeat first | exact LE.nil _ | refine LE.unk _ _ ?_ | refine LE.eq _ _ _ rfl ?_)
  · dsimp only
    refine lessApp (n := n) hz (fun jx hj => ?_) (fun jx hl hn => ?_)
    · simp only [List.map_cons, List.map_nil, List.mem_cons, List.not_mem_nil, or_false] at hj
      rcases hj with rfl <;> (simp (disch := omega) only [↓app0, ↓appC, ↓updS, ↓updN, ↓hpS, ↓hpN]) <;> first | rfl | assumption | exact k1.trans (by rw [mix_zero])
    · simp only [List.map_cons, List.map_nil, List.mem_cons, List.not_mem_nil, or_false, not_or] at hn
      (simp (disch := omega) only [↓app0, ↓appC, ↓updS, ↓updN, ↓hpS, ↓hpN])
  · exact Nat.le_refl _
  intro ⟨i, y⟩ hI ih
  dsimp only at hI ⊢
  have hml := mix_len (i := i) hMl hI.1
  have hx : i < L.length → (MW k L.length).getD i (0, 0) = mWt y := fun h => by rw [MW_get h, hI.2]
  refine lStep ?_
  refine wSeq ?_
  refine wSeq ?_
  refine wRegion ?_
  refine rmI rfl rfl rfl rfl rfl ?_
  refine rmV rfl rfl rfl rfl rfl ?_
  refine rll rfl rfl rfl rfl rfl rfl ?_
  refine rlt rfl rfl rfl rfl rfl rfl ?_ ?_ <;> intro h2_3
  · refine rNil ?_
    refine qSeq ?_
    refine wT rfl ?_
    refine wSkip ?_
    refine qSeq ?_
    refine wSeq ?_
    refine wBlock ?_
    refine wSeq ?_
    refine wRegion ?_
    refine rmV rfl rfl rfl rfl rfl ?_
    refine rmI rfl rfl rfl rfl rfl ?_
    refine rmI rfl rfl rfl rfl rfl ?_
    (apply rixv rfl rfl rfl rfl; (first | ((simp (disch := omega) only [↓app0, ↓appC, ↓updS, ↓updN, ↓hpS, ↓hpN]) <;> first | rfl | assumption) | assumption | rfl); rfl; (first | omega | assumption | (focus (simp; omega))); (first | omega | assumption | (focus (simp; omega))); rfl; rfl; rfl)
    refine rfa (off := 0) (s := 1) (r := false) rfl rfl rfl (Nat.succ_ne_zero _) rfl rfl rfl ?_
    (apply rst (u := .int _ _) rfl rfl rfl; (first | ((simp (disch := omega) only [↓app0, ↓appC, ↓updS, ↓updN, ↓hpS, ↓hpN]) <;> first | rfl | assumption) | assumption | rfl); exact getMP wtV (0, 0) (by rw [hml]; omega); rfl; rfl; rfl; rfl; (exact Nat.le_of_ble_eq_true rfl); rfl; rfl; rfl)
    refine rNil ?_
    refine qSeq ?_
    refine wSeq ?_
    refine wRegion ?_
    refine rmI rfl rfl rfl rfl rfl ?_
    refine raddF rfl rfl rfl ?_ ?_ rfl rfl rfl ?_
    · omega
    · omega
    refine raI rfl rfl rfl rfl rfl ?_
    refine rNil ?_
    refine qSeq ?_
    refine wSeq ?_
    refine wRegion ?_
    refine rmV rfl rfl rfl rfl rfl ?_
    refine rmI rfl rfl rfl rfl rfl ?_
    refine rmI rfl rfl rfl rfl rfl ?_
    (apply rixv rfl rfl rfl rfl; (first | ((simp (disch := omega) only [↓app0, ↓appC, ↓updS, ↓updN, ↓hpS, ↓hpN]) <;> first | rfl | assumption) | assumption | rfl); rfl; (first | omega | assumption | (focus (simp; omega))); (first | omega | assumption | (focus (simp; omega))); rfl; rfl; rfl)
    refine rfa (off := 1) (s := 1) (r := false) rfl rfl rfl (Nat.succ_ne_zero _) rfl rfl rfl ?_
    (apply rst (u := .int _ _) rfl rfl rfl; (first | ((simp (disch := omega) only [↓app0, ↓appC, ↓updS, ↓updN, ↓hpS, ↓hpN]) <;> first | rfl | assumption) | assumption | rfl); exact gsP (by simp only [List.length_set, List.length_append, List.length_map]; rw [hml]; omega); rfl; rfl; rfl; rfl; (exact Nat.le_of_ble_eq_true rfl); rfl; rfl; rfl)
    refine rNil ?_
    refine qSeq ?_
    refine wRegion ?_
    refine rmI rfl rfl rfl rfl rfl ?_
    refine raddF rfl rfl rfl ?_ ?_ rfl rfl rfl ?_
    · omega
    · omega
    refine raI rfl rfl rfl rfl rfl ?_
    refine rNil ?_
    refine qBlock ?_
    refine qSeq ?_
    refine wRegion ?_
    refine rmI rfl rfl rfl rfl rfl ?_
    refine raddF rfl rfl rfl ?_ ?_ rfl rfl rfl ?_
    · omega
    · omega
    refine raI rfl rfl rfl rfl rfl ?_
    refine rNil ?_
    refine qLoop ?_
    exact wlH (ih (i + 1, y + 1 + 1) ⟨by dsimp only; omega, by dsimp only; omega⟩ (by dsimp only; omega)) (by (repeat first | exact LE.nil _ | refine LE.unk _ _ ?_ | refine LE.eq _ _ _ rfl ?_)) (by
      dsimp only
      refine lessApp (n := n) hz (fun jx hj => ?_) (fun jx hl hn => ?_)
      · simp only [List.map_cons, List.map_nil, List.mem_cons, List.not_mem_nil, or_false] at hj
        rcases hj with rfl <;> (simp (disch := omega) only [↓app0, ↓appC, ↓updS, ↓updN, ↓hpS, ↓hpN]) <;> first | rfl | assumption | (refine congrArg (fun z => some (Blk.mk z 2 123)) ?_; simp only [List.set_set]; refine Eq.trans setMP ?_; exact congrArg (Pr ++ ·) (mix_set wtV (0, 0) hMl (by omega) (by rw [hx (by omega)]; rfl)))
      · simp only [List.map_cons, List.map_nil, List.mem_cons, List.not_mem_nil, or_false, not_or] at hn
        (simp (disch := omega) only [↓app0, ↓appC, ↓updS, ↓updN, ↓hpS, ↓hpN])) (Nat.le_refl _)
  · refine rNil ?_
    refine qSeq ?_
    refine wF rfl ?_
    refine wExit ?_
    refine qSeqX ?_
    refine qLoopX ?_
    refine qBlockX ?_
    refine qSeq ?_
    refine wSeq ?_
    refine wRegion ?_
    refine rmI rfl rfl rfl rfl rfl ?_
    refine raI rfl rfl rfl rfl rfl ?_
    refine rNil ?_
    refine qSeq ?_
    refine wRet ?_
    obtain rfl : i = L.length := by omega
    exact finO rfl (congrArg (V.int .i64) hI.2) (leWr (by
      intro j hj
      simp only [List.map_cons, List.map_nil, List.mem_cons, List.not_mem_nil, or_false] at hj
      rcases hj with rfl <;> (simp (disch := omega) only [↓app0, ↓appC, ↓updS, ↓updN, ↓hpS, ↓hpN]) <;> first | rfl | (exact congrArg (fun z => some (Blk.mk z 2 123)) (congrArg (fun z => Pr ++ List.map wtV z) (mix_full hMl)))) (fun j hj hn => by
      simp only [List.map_cons, List.map_nil, List.mem_cons, List.not_mem_nil, or_false, not_or] at hn
      (simp (disch := omega) only [↓app0, ↓appC, ↓updS, ↓updN, ↓hpS, ↓hpN]) <;> rfl)) (Nat.le_refl _)
theorem o53p (L : List Lk) (w : Nat → Nat) (P : Nat → List (List V)) (k : Int) (hk : 0 ≤ k ∧ k ≤ 1000000) (hL : L.length ≤ 1048577) (hW : ∀ i, i < L.length → (L.getD i Lk0).ws.length ≤ 1048577) (hinj : ∀ i j, i < L.length → j < L.length → w i = w j → i = j) {id : Nat} {h : Heap} {n : Nat} (hid : id < n) (hlw : ∀ i, i < L.length → w i ≠ id) (hwn : ∀ i, i < L.length → w i < n)
    (k1 : h id = some ⟨lkP w P L, 5, 29⟩) (kf : ∀ i, i < L.length → h (w i) = wsP P L i) :
    V.Open En 53 [.view id 0 L.length, .int .i64 k] h n (.int .i64 (kL k L)) ([(id, some ⟨lkP w P (ML k L), 5, 29⟩)] ++ famL w (wsP P (ML k L)) L.length) n := by
  have hlw1 : ∀ i, i < L.length → id ≠ w i := fun i h e => hlw i h e.symm
  refine V.Open.fresh rfl (Nat.le_refl _) fun hz => ?_
  refine V.Open.of_wp Try.func53 rfl (Nat.le_of_ble_eq_true rfl) ?_
  refine wSeq ?_
  refine wRegion ?_
  refine raI rfl rfl rfl rfl rfl ?_
  refine rNil ?_
  refine qSeq ?_
  refine wSeq ?_
  refine wSeq ?_
  refine wRegion ?_
  refine raI rfl rfl rfl rfl rfl ?_
  refine rNil ?_
  refine qSeq ?_
  refine wBlock ?_
  refine wLoop ?_
  refine loopGo (fun (a : Nat × Int) => [.view id 0 L.length, .int .i64 a.2, .unk, .unk, .unk, .int .i64 a.1]) (fun (a : Nat × Int) => app ([(id, some ⟨lkP w P (mix (ML k L) L a.1), 5, 29⟩)] ++ famL w (wsP P (mix (ML k L) L a.1)) L.length) h) (fun (a : Nat × Int) => n) (fun (a : Nat × Int) => a.1 ≤ L.length ∧ a.2 = kL k (L.take a.1) ∧ k ≤ a.2 ∧ a.2 ≤ k + 2097160 * (a.1 : Int)) (fun (a : Nat × Int) => L.length - a.1) (0, k) ?_ ?_ ?_ ?_ ?_
  · exact ⟨Nat.zero_le _, by rw [List.take_zero]; rfl, by dsimp only; omega, by dsimp only; omega⟩
  · (repeat first | exact LE.nil _ | refine LE.unk _ _ ?_ | refine LE.eq _ _ _ rfl ?_)
  · dsimp only
    rw [mix_zero]
    refine lessFam (m := n) hz (fun j hj => ?_) (fun j hj => ?_) (fun j hl hf hn => rfl)
    · rw [famA hinj hj]; exact kf j hj
    · simp only [List.map_cons, List.map_nil, List.mem_cons, List.not_mem_nil, or_false] at hj
      rw [hj]
      refine Eq.trans ?_ (famAO hlw).symm
      (simp (disch := omega) only [↓app0, ↓appC, ↓updS, ↓updN, ↓hpS, ↓hpN])
      exact k1
  · exact Nat.le_refl _
  intro ⟨i, y⟩ hI ih
  dsimp only at hI ⊢
  have hml := mix_len (i := i) (ML_len k L) hI.1
  have hx := fun h : i < L.length => kL_take (k := k) h
  have hy : y = kL k (L.take i) := hI.2.1
  have hwi := fun h : i < L.length => hW i h
  refine lStep ?_
  refine wSeq ?_
  refine wSeq ?_
  refine wRegion ?_
  refine rmI rfl rfl rfl rfl rfl ?_
  refine rmV rfl rfl rfl rfl rfl ?_
  refine rll rfl rfl rfl rfl rfl rfl ?_
  refine rlt rfl rfl rfl rfl rfl rfl ?_ ?_ <;> intro h2_3
  · refine rNil ?_
    refine qSeq ?_
    refine wT rfl ?_
    refine wSkip ?_
    refine qSeq ?_
    refine wSeq ?_
    refine wBlock ?_
    refine wSeq ?_
    refine wRegion ?_
    refine rmV rfl rfl rfl rfl rfl ?_
    refine rmI rfl rfl rfl rfl rfl ?_
    refine rmI rfl rfl rfl rfl rfl ?_
    refine rcl (q94 _ (by omega)) rfl rfl rfl rfl rfl rfl ?_
    (apply rixv rfl rfl rfl rfl; (first | ((simp (disch := (first | omega | assumption | (apply hlw; omega) | (apply hlw1; omega))) only [↓appC, ↓updN, ↓updS, ↓app0, ↓famAO]) <;> first | rfl | assumption) | assumption | rfl); rfl; (first | omega | assumption | (focus (simp; omega))); (first | omega | assumption | (focus (simp; omega))); rfl; rfl; rfl)
    refine rfa (off := 0) (s := 1) (r := false) rfl rfl rfl (Nat.succ_ne_zero _) rfl rfl rfl ?_
    (apply rst (u := .str _) rfl rfl rfl; (first | ((simp (disch := (first | omega | assumption | (apply hlw; omega) | (apply hlw1; omega))) only [↓appC, ↓updN, ↓updS, ↓app0, ↓famAO]) <;> first | rfl | assumption) | assumption | rfl); exact rwGetP (i := i) (r := (L.getD i Lk0).V (.view (w i) (P i).length (L.getD i Lk0).ws.length)) (by rw [hml]; omega) (by unfold rwP; rw [mixSame (by omega)]); rfl; rfl; rfl; rfl; (exact Nat.le_of_ble_eq_true rfl); rfl; rfl; rfl)
    refine rNil ?_
    refine qSeq ?_
    refine wSeq ?_
    refine wRegion ?_
    refine rmI rfl rfl rfl rfl rfl ?_
    refine raddF rfl rfl rfl ?_ ?_ rfl rfl rfl ?_
    · omega
    · omega
    refine raI rfl rfl rfl rfl rfl ?_
    refine rNil ?_
    refine qSeq ?_
    refine wSeq ?_
    refine wRegion ?_
    refine rmV rfl rfl rfl rfl rfl ?_
    refine rmI rfl rfl rfl rfl rfl ?_
    refine rmI rfl rfl rfl rfl rfl ?_
    (apply rixv rfl rfl rfl rfl; (first | ((simp (disch := (first | omega | assumption | (apply hlw; omega) | (apply hlw1; omega))) only [↓appC, ↓updN, ↓updS, ↓app0, ↓famAO]) <;> first | rfl | assumption) | assumption | rfl); rfl; (first | omega | assumption | (focus (simp; omega))); (first | omega | assumption | (focus (simp; omega))); rfl; rfl; rfl)
    refine rfa (off := 1) (s := 1) (r := false) rfl rfl rfl (Nat.succ_ne_zero _) rfl rfl rfl ?_
    (apply rst (u := .int _ _) rfl rfl rfl; (first | ((simp (disch := (first | omega | assumption | (apply hlw; omega) | (apply hlw1; omega))) only [↓appC, ↓updN, ↓updS, ↓app0, ↓famAO]) <;> first | rfl | assumption) | assumption | rfl); exact gsS (by (try simp only [List.length_set]); rw [lkP_len, hml]; omega); rfl; rfl; rfl; rfl; (exact Nat.le_of_ble_eq_true rfl); rfl; rfl; rfl)
    refine rNil ?_
    refine qSeq ?_
    refine wSeq ?_
    refine wRegion ?_
    refine rmI rfl rfl rfl rfl rfl ?_
    refine raddF rfl rfl rfl ?_ ?_ rfl rfl rfl ?_
    · omega
    · omega
    refine raI rfl rfl rfl rfl rfl ?_
    refine rNil ?_
    refine qSeq ?_
    refine wSeq ?_
    refine wRegion ?_
    refine rmV rfl rfl rfl rfl rfl ?_
    refine rmI rfl rfl rfl rfl rfl ?_
    refine rmI rfl rfl rfl rfl rfl ?_
    (apply rixv rfl rfl rfl rfl; (first | ((simp (disch := (first | omega | assumption | (apply hlw; omega) | (apply hlw1; omega))) only [↓appC, ↓updN, ↓updS, ↓app0, ↓famAO]) <;> first | rfl | assumption) | assumption | rfl); rfl; (first | omega | assumption | (focus (simp; omega))); (first | omega | assumption | (focus (simp; omega))); rfl; rfl; rfl)
    refine rfa (off := 2) (s := 1) (r := false) rfl rfl rfl (Nat.succ_ne_zero _) rfl rfl rfl ?_
    (apply rst (u := .int _ _) rfl rfl rfl; (first | ((simp (disch := (first | omega | assumption | (apply hlw; omega) | (apply hlw1; omega))) only [↓appC, ↓updN, ↓updS, ↓app0, ↓famAO]) <;> first | rfl | assumption) | assumption | rfl); exact gsS (by (try simp only [List.length_set]); rw [lkP_len, hml]; omega); rfl; rfl; rfl; rfl; (exact Nat.le_of_ble_eq_true rfl); rfl; rfl; rfl)
    refine rNil ?_
    refine qSeq ?_
    refine wSeq ?_
    refine wRegion ?_
    refine rmI rfl rfl rfl rfl rfl ?_
    refine raddF rfl rfl rfl ?_ ?_ rfl rfl rfl ?_
    · omega
    · omega
    refine raI rfl rfl rfl rfl rfl ?_
    refine rNil ?_
    refine qSeq ?_
    refine wSeq ?_
    refine wRegion ?_
    refine rmV rfl rfl rfl rfl rfl ?_
    refine rmI rfl rfl rfl rfl rfl ?_
    refine rmI rfl rfl rfl rfl rfl ?_
    (apply rixv rfl rfl rfl rfl; (first | ((simp (disch := (first | omega | assumption | (apply hlw; omega) | (apply hlw1; omega))) only [↓appC, ↓updN, ↓updS, ↓app0, ↓famAO]) <;> first | rfl | assumption) | assumption | rfl); rfl; (first | omega | assumption | (focus (simp; omega))); (first | omega | assumption | (focus (simp; omega))); rfl; rfl; rfl)
    refine rfa (off := 3) (s := 1) (r := false) rfl rfl rfl (Nat.succ_ne_zero _) rfl rfl rfl ?_
    (apply rst (u := .int _ _) rfl rfl rfl; (first | ((simp (disch := (first | omega | assumption | (apply hlw; omega) | (apply hlw1; omega))) only [↓appC, ↓updN, ↓updS, ↓app0, ↓famAO]) <;> first | rfl | assumption) | assumption | rfl); exact gsS (by (try simp only [List.length_set]); rw [lkP_len, hml]; omega); rfl; rfl; rfl; rfl; (exact Nat.le_of_ble_eq_true rfl); rfl; rfl; rfl)
    refine rNil ?_
    refine qSeq ?_
    refine wSeq ?_
    refine wRegion ?_
    refine rmI rfl rfl rfl rfl rfl ?_
    refine raddF rfl rfl rfl ?_ ?_ rfl rfl rfl ?_
    · omega
    · omega
    refine raI rfl rfl rfl rfl rfl ?_
    refine rNil ?_
    refine qSeq ?_
    refine wRegion ?_
    refine rmV rfl rfl rfl rfl rfl ?_
    refine rmI rfl rfl rfl rfl rfl ?_
    (apply rixv rfl rfl rfl rfl; (first | ((simp (disch := (first | omega | assumption | (apply hlw; omega) | (apply hlw1; omega))) only [↓appC, ↓updN, ↓updS, ↓app0, ↓famAO]) <;> first | rfl | assumption) | assumption | rfl); rfl; (first | omega | assumption | (focus (simp; omega))); (first | omega | assumption | (focus (simp; omega))); rfl; rfl; rfl)
    refine rfa (off := 4) (s := 1) (r := false) rfl rfl rfl (Nat.succ_ne_zero _) rfl rfl rfl ?_
    (apply rlc (v := .view (w i) (P i).length (L.getD i Lk0).ws.length) rfl rfl; (first | ((simp (disch := (first | omega | assumption | (apply hlw; omega) | (apply hlw1; omega))) only [↓appC, ↓updN, ↓updS, ↓app0, ↓famAO]) <;> first | rfl | assumption) | assumption | rfl); exact gsS (by (try simp only [List.length_set]); rw [lkP_len, hml]; omega); rfl; rfl; rfl; rfl; rfl)
    refine rmI rfl rfl rfl rfl rfl ?_
    refine rop (o55p (P i) (L.getD i Lk0).ws (y + 1 + 1 + 1 + 1) (by omega) (by have := hW i (by omega); omega) (id := w i) ?_ ?_) rfl rfl rfl rfl rfl rfl ?_
    · (first | (apply hwn; omega) | ((simp (disch := (first | omega | assumption | (apply hlw; omega) | (apply hlw1; omega))) only [↓appC, ↓updN, ↓updS, ↓app0, ↓famAO]); (try rw [famA hinj (by omega)]); (rw [wsMixP (by omega), if_neg (Nat.lt_irrefl _)]); rfl))
    · (first | (apply hwn; omega) | ((simp (disch := (first | omega | assumption | (apply hlw; omega) | (apply hlw1; omega))) only [↓appC, ↓updN, ↓updS, ↓app0, ↓famAO]); (try rw [famA hinj (by omega)]); (rw [wsMixP (by omega), if_neg (Nat.lt_irrefl _)]); rfl))
    refine raI rfl rfl rfl rfl rfl ?_
    refine rNil ?_
    refine qBlock ?_
    refine qSeq ?_
    refine wRegion ?_
    refine rmI rfl rfl rfl rfl rfl ?_
    refine raddF rfl rfl rfl ?_ ?_ rfl rfl rfl ?_
    · omega
    · omega
    refine raI rfl rfl rfl rfl rfl ?_
    refine rNil ?_
    refine qLoop ?_
    refine wlH (ih (i + 1, y + 1 + 1 + 1 + 1 + 2 * ((L.getD i Lk0).ws.length : Int)) ⟨by dsimp only; omega, by dsimp only; have := hx (by omega); omega, by dsimp only; omega, by dsimp only; have := hwi (by omega); omega⟩ (by dsimp only; omega)) (by (repeat first | exact LE.nil _ | refine LE.unk _ _ ?_ | refine LE.eq _ _ _ rfl ?_)) (by
      dsimp only
      refine lessFam (m := n) hz (fun j hj => ?_) (fun j hj => ?_) (fun j hl hf hn => ?_)
      · rw [famA hinj hj, wsMixP (by omega)]
        by_cases e : j = i
        · rw [e, if_pos (by omega), wsMLP (by omega), ← hy]
          simp (disch := (first | omega | assumption | (apply hlw; omega) | (apply hlw1; omega))) only [↓appC, ↓updN, ↓updS, ↓app0, ↓famAO]
        · have e1 : w j ≠ w i := fun e2 => e (hinj j i hj (by omega) e2)
          have e3 := hlw j hj
          simp (disch := (first | omega | assumption | (apply hlw; omega) | (apply hlw1; omega))) only [↓appC, ↓updN, ↓updS, ↓app0, ↓famAO]
          rw [famA hinj hj, wsMixP (by omega)]
          by_cases h4 : j < i
          · rw [if_pos h4, if_pos (by omega)]
          · rw [if_neg h4, if_neg (by omega)]
      · simp only [List.map_cons, List.map_nil, List.mem_cons, List.not_mem_nil, or_false] at hj
        rw [hj]
        refine Eq.trans ?_ (famAO hlw).symm
        have e3 := hlw i (by omega)
        have e4 : id ≠ w i := fun e => e3 e.symm
        simp (disch := (first | omega | assumption | (apply hlw; omega) | (apply hlw1; omega))) only [↓appC, ↓updN, ↓updS, ↓app0, ↓famAO]
        refine congrArg (fun z => some (Blk.mk z 5 29)) ?_
        simp only [List.set_set]
        exact rwSetP (by omega) (by rw [rwMLP (by omega), ← hy]; rfl)
      · simp only [List.map_cons, List.map_nil, List.mem_cons, List.not_mem_nil, or_false] at hn
        have e1 : j ≠ w i := fun e => hf i (by omega) e.symm
        have e2 : ¬ j = id := hn
        simp (disch := first | omega | assumption) only [↓appC, ↓updN, ↓app0, ↓famAO]) (Nat.le_refl _)
  · refine rNil ?_
    refine qSeq ?_
    refine wF rfl ?_
    refine wExit ?_
    refine qSeqX ?_
    refine qLoopX ?_
    refine qBlockX ?_
    refine qSeq ?_
    refine wSeq ?_
    refine wRegion ?_
    refine rmI rfl rfl rfl rfl rfl ?_
    refine raI rfl rfl rfl rfl rfl ?_
    refine rNil ?_
    refine qSeq ?_
    refine wRet ?_
    obtain rfl : i = L.length := by omega
    refine finO rfl (congrArg (V.int .i64) (by rw [hy, List.take_length])) ?_ (Nat.le_refl _)
    rw [mix_full (ML_len k L)]
    exact fun _ _ _ e => e
theorem o15p (t : Tb) (w : Nat → Nat) (P : Nat → List (List V)) (k : Int) (hk : 0 ≤ k ∧ k ≤ 1000000) (hL : t.lk.length ≤ 1048577) (hW : ∀ i, i < t.lk.length → (t.lk.getD i Lk0).ws.length ≤ 1048577) (hS : t.sn.length ≤ 1048577) (hinj : ∀ i j, i < t.lk.length → j < t.lk.length → w i = w j → i = j) {lb sb : Nat} {h : Heap} {n : Nat} (hl : lb < n) (hs : sb < n) (hne : lb ≠ sb) (hlw : ∀ i, i < t.lk.length → w i ≠ lb) (hws : ∀ i, i < t.lk.length → w i ≠ sb) (hwn : ∀ i, i < t.lk.length → w i < n)
    (k1 : h lb = some ⟨lkP w P t.lk, 5, 29⟩) (kf : ∀ i, i < t.lk.length → h (w i) = wsP P t.lk i) (k2 : h sb = some ⟨t.sn.map Sn.V, 6, 115⟩) :
    V.Open En 15 [.agg [.int .i64 t.tm, .int .i64 t.nx, .view lb 0 t.lk.length, .view sb 0 t.sn.length], .int .i64 k] h n (.int .i64 (kL k t.lk + 6 * (t.sn.length : Int)))
      ([(lb, some ⟨lkP w P (ML k t.lk), 5, 29⟩), (sb, some ⟨(MS (kL k t.lk) t.sn.length).map Sn.V, 6, 115⟩)] ++ famL w (wsP P (ML k t.lk)) t.lk.length) (n + 1) := by
  have hbd := kL_bd (k := k) hW
  have hne2 : sb ≠ lb := fun e => hne e.symm
  have hwb : ∀ i, i < t.lk.length → w i ≠ n := fun i hi e => by have := hwn i hi; omega
  refine V.Open.of_wp Try.func15 rfl (Nat.le_of_ble_eq_true rfl) ?_
  refine wSeq ?_
  refine wRegion ?_
  refine rbx (u := .agg [.int _ _, .int _ _, _, _]) rfl rfl rfl rfl rfl rfl rfl ?_
  refine raI rfl rfl rfl rfl rfl ?_
  refine rNil ?_
  refine qSeq ?_
  refine wSeq ?_
  refine wRegion ?_
  refine rfa (off := 2) (s := 1) (r := false) rfl rfl rfl (Nat.succ_ne_zero _) rfl rfl rfl ?_
  (apply rlc (v := .view _ _ _) rfl rfl; (first | ((simp (disch := (first | omega | assumption)) only [↓appC, ↓updN, ↓updS, ↓app0, ↓hpS, ↓hpN]) <;> first | rfl | assumption) | ((simp (disch := (first | omega | assumption)) only [↓appC, ↓updN, ↓updS, ↓app0, ↓famAO]) <;> first | rfl | assumption) | assumption | rfl); rfl; rfl; rfl; rfl; rfl; rfl)
  refine rmI rfl rfl rfl rfl rfl ?_
  refine rop (o53p t.lk w P k hk hL hW hinj (id := lb) ?_ ?_ ?_ ?_ ?_) rfl rfl rfl rfl rfl rfl ?_
  · (first | omega | assumption | (intro i hi; have := hwn i hi; omega) | (intro i hi; have := hwn i hi; (simp (disch := omega) only [↓appC, ↓updN, ↓app0]); exact kf i hi) | (first | ((simp (disch := (first | omega | assumption)) only [↓appC, ↓updN, ↓updS, ↓app0, ↓hpS, ↓hpN]) <;> first | rfl | assumption) | ((simp (disch := (first | omega | assumption)) only [↓appC, ↓updN, ↓updS, ↓app0, ↓famAO]) <;> first | rfl | assumption) | assumption | rfl))
  · (first | omega | assumption | (intro i hi; have := hwn i hi; omega) | (intro i hi; have := hwn i hi; (simp (disch := omega) only [↓appC, ↓updN, ↓app0]); exact kf i hi) | (first | ((simp (disch := (first | omega | assumption)) only [↓appC, ↓updN, ↓updS, ↓app0, ↓hpS, ↓hpN]) <;> first | rfl | assumption) | ((simp (disch := (first | omega | assumption)) only [↓appC, ↓updN, ↓updS, ↓app0, ↓famAO]) <;> first | rfl | assumption) | assumption | rfl))
  · (first | omega | assumption | (intro i hi; have := hwn i hi; omega) | (intro i hi; have := hwn i hi; (simp (disch := omega) only [↓appC, ↓updN, ↓app0]); exact kf i hi) | (first | ((simp (disch := (first | omega | assumption)) only [↓appC, ↓updN, ↓updS, ↓app0, ↓hpS, ↓hpN]) <;> first | rfl | assumption) | ((simp (disch := (first | omega | assumption)) only [↓appC, ↓updN, ↓updS, ↓app0, ↓famAO]) <;> first | rfl | assumption) | assumption | rfl))
  · (first | omega | assumption | (intro i hi; have := hwn i hi; omega) | (intro i hi; have := hwn i hi; (simp (disch := omega) only [↓appC, ↓updN, ↓app0]); exact kf i hi) | (first | ((simp (disch := (first | omega | assumption)) only [↓appC, ↓updN, ↓updS, ↓app0, ↓hpS, ↓hpN]) <;> first | rfl | assumption) | ((simp (disch := (first | omega | assumption)) only [↓appC, ↓updN, ↓updS, ↓app0, ↓famAO]) <;> first | rfl | assumption) | assumption | rfl))
  · (first | omega | assumption | (intro i hi; have := hwn i hi; omega) | (intro i hi; have := hwn i hi; (simp (disch := omega) only [↓appC, ↓updN, ↓app0]); exact kf i hi) | (first | ((simp (disch := (first | omega | assumption)) only [↓appC, ↓updN, ↓updS, ↓app0, ↓hpS, ↓hpN]) <;> first | rfl | assumption) | ((simp (disch := (first | omega | assumption)) only [↓appC, ↓updN, ↓updS, ↓app0, ↓famAO]) <;> first | rfl | assumption) | assumption | rfl))
  refine raI rfl rfl rfl rfl rfl ?_
  refine rNil ?_
  refine qSeq ?_
  refine wSeq ?_
  refine wRegion ?_
  refine rfa (off := 3) (s := 1) (r := false) rfl rfl rfl (Nat.succ_ne_zero _) rfl rfl rfl ?_
  (apply rlc (v := .view _ _ _) rfl rfl; (first | ((simp (disch := (first | omega | assumption)) only [↓appC, ↓updN, ↓updS, ↓app0, ↓hpS, ↓hpN]) <;> first | rfl | assumption) | ((simp (disch := (first | omega | assumption)) only [↓appC, ↓updN, ↓updS, ↓app0, ↓famAO]) <;> first | rfl | assumption) | assumption | rfl); rfl; rfl; rfl; rfl; rfl; rfl)
  refine rmI rfl rfl rfl rfl rfl ?_
  refine rop (o54 t.sn (kL k t.lk) (by omega) hS (id := sb) ?_ ?_) rfl rfl rfl rfl rfl rfl ?_
  · (first | omega | assumption | (intro i hi; have := hwn i hi; omega) | (intro i hi; have := hwn i hi; (simp (disch := omega) only [↓appC, ↓updN, ↓app0]); exact kf i hi) | (first | ((simp (disch := (first | omega | assumption)) only [↓appC, ↓updN, ↓updS, ↓app0, ↓hpS, ↓hpN]) <;> first | rfl | assumption) | ((simp (disch := (first | omega | assumption)) only [↓appC, ↓updN, ↓updS, ↓app0, ↓famAO]) <;> first | rfl | assumption) | assumption | rfl))
  · (first | omega | assumption | (intro i hi; have := hwn i hi; omega) | (intro i hi; have := hwn i hi; (simp (disch := omega) only [↓appC, ↓updN, ↓app0]); exact kf i hi) | (first | ((simp (disch := (first | omega | assumption)) only [↓appC, ↓updN, ↓updS, ↓app0, ↓hpS, ↓hpN]) <;> first | rfl | assumption) | ((simp (disch := (first | omega | assumption)) only [↓appC, ↓updN, ↓updS, ↓app0, ↓famAO]) <;> first | rfl | assumption) | assumption | rfl))
  refine raI rfl rfl rfl rfl rfl ?_
  refine rNil ?_
  refine qSeq ?_
  refine wSeq ?_
  refine wRegion ?_
  refine rmI rfl rfl rfl rfl rfl ?_
  refine raI rfl rfl rfl rfl rfl ?_
  refine rNil ?_
  refine qSeq ?_
  refine wRet ?_
  refine finO rfl rfl ?_ (Nat.le_refl _)
  refine leFam (fun i hi => ?_) (fun j hj => ?_) (fun j hl hf hn => ?_)
  · rw [famA hinj hi]
    have e1 := hws i hi
    have e2 := hlw i hi
    simp (disch := (first | omega | assumption)) only [↓appC, ↓updN, ↓app0]
    exact famA hinj hi
  · simp only [List.map_cons, List.map_nil, List.mem_cons, List.not_mem_nil, or_false] at hj
    rcases hj with e | e
    · rw [e]
      refine Eq.trans ?_ (famAO hlw).symm
      simp (disch := (first | omega | assumption)) only [↓appC, ↓updN, ↓updS, ↓app0, ↓famAO]
    · rw [e]
      refine Eq.trans ?_ (famAO hws).symm
      simp (disch := (first | omega | assumption)) only [↓appC, ↓updN, ↓updS, ↓app0, ↓famAO]
  · simp only [List.map_cons, List.map_nil, List.mem_cons, List.not_mem_nil, or_false, not_or] at hn
    have e1 : ¬ j = lb := hn.1
    have e2 : ¬ j = sb := hn.2
    simp (disch := (first | omega | assumption)) only [↓appC, ↓updN, ↓updS, ↓app0, ↓famAO]
theorem s61 (nn b : Bool) (L : List Lk) (k : Int) (hk : 0 ≤ k ∧ k ≤ 1000000) (hL : L.length ≤ 1048577) (hW : ∀ i, i < L.length → (L.getD i Lk0).ws.length ≤ 1048577) : Pure En 61 [.one (.sl nn ((ML k L).map (Lk.T b))), .one (.int .i64 k)] [.one (.int .i64 (kL k L))] := by
  have hl : ((ML k L).map (Lk.T b)).length = L.length := by rw [List.length_map, ML_len]
  refine Pure.of_wp Try.func61 rfl (Nat.le_of_ble_eq_true rfl) ?_
  refine wSeq ?_
  refine wRegion ?_
  refine raI rfl rfl rfl rfl rfl ?_
  refine rNil ?_
  refine qSeq ?_
  refine wSeq ?_
  refine wSeq ?_
  refine wRegion ?_
  refine raI rfl rfl rfl rfl rfl ?_
  refine rNil ?_
  refine qSeq ?_
  refine wBlock ?_
  refine wLoop ?_
  refine loopGo0 (fun (a : Nat × Int) => [.sl false nn ((ML k L).map (Lk.T b)), .int .i64 a.2, .unk, .unk, .unk, .int .i64 a.1]) (fun (a : Nat × Int) => a.1 ≤ L.length ∧ a.2 = kL k (L.take a.1) ∧ k ≤ a.2 ∧ a.2 ≤ k + 2097160 * (a.1 : Int)) (fun (a : Nat × Int) => L.length - a.1) (0, k) ?_ ?_ ?_
  · exact ⟨Nat.zero_le _, by rw [List.take_zero]; rfl, by dsimp only; omega, by dsimp only; omega⟩
  · (repeat first | exact LE.nil _ | refine LE.unk _ _ ?_ | refine LE.eq _ _ _ rfl ?_)
  intro ⟨i, y⟩ hI ih
  dsimp only at hI ⊢
  have hy : y = kL k (L.take i) := hI.2.1
  have hwi := fun h : i < L.length => hW i h
  have hkt := fun h : i < L.length => kL_take (k := k) h
  have hx : i < L.length → ((ML k L).map (Lk.T b))[i]? = some ((mLk y (L.getD i Lk0).ws.length).T b) := fun h => by
    rw [getMap (Lk.T b) Lk0 (show i < (ML k L).length by rw [ML_len]; exact h), ML_get h, hy]
  refine lStep ?_
  refine wSeq ?_
  refine wSeq ?_
  refine wRegion ?_
  refine rmI rfl rfl rfl rfl rfl ?_
  refine rmL rfl rfl rfl rfl rfl ?_
  refine rll rfl rfl rfl rfl rfl rfl ?_
  refine rlt rfl rfl rfl rfl rfl rfl ?_ ?_ <;> intro h2_3
  · refine rNil ?_
    refine qSeq ?_
    refine wT rfl ?_
    refine wSkip ?_
    refine qSeq ?_
    refine wSeq ?_
    refine wBlock ?_
    refine wSeq ?_
    refine wSeq ?_
    refine wDraw [0, 0, 3, 7, 15, 0, 32, 127] rfl (by decide +kernel) ?_
    refine dmL rfl rfl rfl rfl rfl ?_
    refine dmI rfl rfl rfl rfl rfl ?_
    (apply dixl rfl rfl rfl rfl; (first | omega | assumption | (focus (simp; omega))); (first | rfl | assumption | exact hx (by omega)); rfl; rfl; rfl; rfl)
    refine dfai (off := 0) (s := 1) (r := false) rfl rfl rfl (Nat.succ_ne_zero _) rfl rfl rfl rfl ?_
    refine dlic (v := .str _) rfl rfl rfl rfl rfl rfl rfl rfl ?_
    refine dmI rfl rfl rfl rfl rfl ?_
    refine dcl (q94 _ (by omega)) rfl rfl rfl rfl rfl rfl ?_
    refine dsne rfl rfl rfl rfl rfl rfl (fun h => absurd h ((fun hh => hh rfl))) ?_
    intro h4_7
    refine dNilR 8 [0, 0, 0, 0, 0, 0, 0, 0] [] rfl rfl (by decide +kernel) trivial ?_
    refine qSeq ?_
    refine wF rfl ?_
    refine wSkip ?_
    refine qSeq ?_
    refine wSeq ?_
    refine wRegion ?_
    refine rmI rfl rfl rfl rfl rfl ?_
    refine raddF rfl rfl rfl ?_ ?_ rfl rfl rfl ?_
    · omega
    · omega
    refine raI rfl rfl rfl rfl rfl ?_
    refine rNil ?_
    refine qSeq ?_
    refine wSeq ?_
    refine wSeq ?_
    refine wRegion ?_
    refine rmL rfl rfl rfl rfl rfl ?_
    refine rmI rfl rfl rfl rfl rfl ?_
    (apply rixl rfl rfl rfl rfl; (first | omega | assumption | (focus (simp; omega))); (first | rfl | assumption | exact hx (by omega)); rfl; rfl; rfl; rfl)
    refine rfai (off := 1) (s := 1) (r := false) rfl rfl rfl (Nat.succ_ne_zero _) rfl rfl rfl rfl ?_
    refine rlic (v := .int _ _) rfl rfl rfl rfl rfl rfl rfl rfl ?_
    refine rmI rfl rfl rfl rfl rfl ?_
    refine rne rfl rfl rfl rfl rfl rfl (fun h => absurd h ((fun hh => hh rfl))) ?_
    intro h7_6
    refine rNil ?_
    refine qSeq ?_
    refine wF rfl ?_
    refine wSkip ?_
    refine qSeq ?_
    refine wSeq ?_
    refine wRegion ?_
    refine rmI rfl rfl rfl rfl rfl ?_
    refine raddF rfl rfl rfl ?_ ?_ rfl rfl rfl ?_
    · omega
    · omega
    refine raI rfl rfl rfl rfl rfl ?_
    refine rNil ?_
    refine qSeq ?_
    refine wSeq ?_
    refine wSeq ?_
    refine wRegion ?_
    refine rmL rfl rfl rfl rfl rfl ?_
    refine rmI rfl rfl rfl rfl rfl ?_
    (apply rixl rfl rfl rfl rfl; (first | omega | assumption | (focus (simp; omega))); (first | rfl | assumption | exact hx (by omega)); rfl; rfl; rfl; rfl)
    refine rfai (off := 2) (s := 1) (r := false) rfl rfl rfl (Nat.succ_ne_zero _) rfl rfl rfl rfl ?_
    refine rlic (v := .int _ _) rfl rfl rfl rfl rfl rfl rfl rfl ?_
    refine rmI rfl rfl rfl rfl rfl ?_
    refine rne rfl rfl rfl rfl rfl rfl (fun h => absurd h ((fun hh => hh rfl))) ?_
    intro h10_6
    refine rNil ?_
    refine qSeq ?_
    refine wF rfl ?_
    refine wSkip ?_
    refine qSeq ?_
    refine wSeq ?_
    refine wRegion ?_
    refine rmI rfl rfl rfl rfl rfl ?_
    refine raddF rfl rfl rfl ?_ ?_ rfl rfl rfl ?_
    · omega
    · omega
    refine raI rfl rfl rfl rfl rfl ?_
    refine rNil ?_
    refine qSeq ?_
    refine wSeq ?_
    refine wSeq ?_
    refine wRegion ?_
    refine rmL rfl rfl rfl rfl rfl ?_
    refine rmI rfl rfl rfl rfl rfl ?_
    (apply rixl rfl rfl rfl rfl; (first | omega | assumption | (focus (simp; omega))); (first | rfl | assumption | exact hx (by omega)); rfl; rfl; rfl; rfl)
    refine rfai (off := 3) (s := 1) (r := false) rfl rfl rfl (Nat.succ_ne_zero _) rfl rfl rfl rfl ?_
    refine rlic (v := .int _ _) rfl rfl rfl rfl rfl rfl rfl rfl ?_
    refine rmI rfl rfl rfl rfl rfl ?_
    refine rne rfl rfl rfl rfl rfl rfl (fun h => absurd h ((fun hh => hh rfl))) ?_
    intro h13_6
    refine rNil ?_
    refine qSeq ?_
    refine wF rfl ?_
    refine wSkip ?_
    refine qSeq ?_
    refine wSeq ?_
    refine wRegion ?_
    refine rmI rfl rfl rfl rfl rfl ?_
    refine raddF rfl rfl rfl ?_ ?_ rfl rfl rfl ?_
    · omega
    · omega
    refine raI rfl rfl rfl rfl rfl ?_
    refine rNil ?_
    refine qSeq ?_
    refine wSeq ?_
    refine wRegion ?_
    refine rmL rfl rfl rfl rfl rfl ?_
    refine rmI rfl rfl rfl rfl rfl ?_
    (apply rixl rfl rfl rfl rfl; (first | omega | assumption | (focus (simp; omega))); (first | rfl | assumption | exact hx (by omega)); rfl; rfl; rfl; rfl)
    refine rfai (off := 4) (s := 1) (r := false) rfl rfl rfl (Nat.succ_ne_zero _) rfl rfl rfl rfl ?_
    refine rlic (v := .sl _ _ _) rfl rfl rfl rfl rfl rfl rfl rfl ?_
    refine rmI rfl rfl rfl rfl rfl ?_
    refine rcl (s56 b (y + 1 + 1 + 1 + 1) (L.getD i Lk0).ws.length (by omega) (by have := hW i (by omega); omega)) rfl rfl rfl rfl rfl rfl ?_
    refine raI rfl rfl rfl rfl rfl ?_
    refine rNil ?_
    refine qSeq ?_
    refine wSeq ?_
    refine wRegion ?_
    refine rmI rfl rfl rfl rfl rfl ?_
    refine rlt rfl rfl rfl rfl rfl rfl (fun h => absurd h (by have := hwi (by omega); omega)) ?_
    intro h17_1
    refine rNil ?_
    refine qSeq ?_
    refine wF rfl ?_
    refine wSkip ?_
    refine qBlock ?_
    refine qSeq ?_
    refine wRegion ?_
    refine rmI rfl rfl rfl rfl rfl ?_
    refine raddF rfl rfl rfl ?_ ?_ rfl rfl rfl ?_
    · omega
    · omega
    refine raI rfl rfl rfl rfl rfl ?_
    refine rNil ?_
    refine qLoop ?_
    exact wlN (ih (i + 1, y + 1 + 1 + 1 + 1 + 2 * ((L.getD i Lk0).ws.length : Int)) ⟨by dsimp only; omega, by dsimp only; have := hkt (by omega); omega, by dsimp only; omega, by dsimp only; have := hwi (by omega); omega⟩ (by dsimp only; omega)) (by (repeat first | exact LE.nil _ | refine LE.unk _ _ ?_ | refine LE.eq _ _ _ rfl ?_))
  · refine rNil ?_
    refine qSeq ?_
    refine wF rfl ?_
    refine wExit ?_
    refine qSeqX ?_
    refine qLoopX ?_
    refine qBlockX ?_
    refine qSeq ?_
    refine wSeq ?_
    refine wRegion ?_
    refine rmI rfl rfl rfl rfl rfl ?_
    refine raI rfl rfl rfl rfl rfl ?_
    refine rNil ?_
    refine qSeq ?_
    refine wRet ?_
    obtain rfl : i = L.length := by omega
    exact finE rfl rfl (by rw [hy, List.take_length])
theorem s62 (nn : Bool) (k : Int) (m : Nat) (hk : 0 ≤ k ∧ k ≤ 1125899906842624) (hm : m ≤ 1048577) : Pure En 62 [.one (.sl nn ((MS k m).map Sn.T)), .one (.int .i64 k)] [.one (.int .i64 (k + 6 * (m : Int)))] := by
  have hl : ((MS k m).map Sn.T).length = m := by rw [List.length_map, MS_len]
  refine Pure.of_wp Try.func62 rfl (Nat.le_of_ble_eq_true rfl) ?_
  refine wSeq ?_
  refine wRegion ?_
  refine raI rfl rfl rfl rfl rfl ?_
  refine rNil ?_
  refine qSeq ?_
  refine wSeq ?_
  refine wSeq ?_
  refine wRegion ?_
  refine raI rfl rfl rfl rfl rfl ?_
  refine rNil ?_
  refine qSeq ?_
  refine wBlock ?_
  refine wLoop ?_
  refine loopGo0 (fun (a : Nat × Int) => [.sl false nn ((MS k m).map Sn.T), .int .i64 a.2, .unk, .unk, .unk, .int .i64 a.1]) (fun (a : Nat × Int) => a.1 ≤ m ∧ a.2 = k + 6 * (a.1 : Int)) (fun (a : Nat × Int) => m - a.1) (0, k) ?_ ?_ ?_
  · exact ⟨Nat.zero_le _, by dsimp only; omega⟩
  · (repeat first | exact LE.nil _ | refine LE.unk _ _ ?_ | refine LE.eq _ _ _ rfl ?_)
  intro ⟨i, y⟩ hI ih
  dsimp only at hI ⊢
  have hx : i < m → ((MS k m).map Sn.T)[i]? = some (Sn.T (mSn y)) := fun h => by
    rw [getMap Sn.T Sn0 (show i < (MS k m).length by rw [MS_len]; exact h), MS_get h, hI.2]
  refine lStep ?_
  refine wSeq ?_
  refine wSeq ?_
  refine wRegion ?_
  refine rmI rfl rfl rfl rfl rfl ?_
  refine rmL rfl rfl rfl rfl rfl ?_
  refine rll rfl rfl rfl rfl rfl rfl ?_
  refine rlt rfl rfl rfl rfl rfl rfl ?_ ?_ <;> intro h2_3
  · refine rNil ?_
    refine qSeq ?_
    refine wT rfl ?_
    refine wSkip ?_
    refine qSeq ?_
    refine wSeq ?_
    refine wBlock ?_
    refine wSeq ?_
    refine wSeq ?_
    refine wRegion ?_
    refine rmL rfl rfl rfl rfl rfl ?_
    refine rmI rfl rfl rfl rfl rfl ?_
    (apply rixl rfl rfl rfl rfl; (first | omega | assumption | (focus (simp; omega))); (first | rfl | assumption | exact hx (by omega)); rfl; rfl; rfl; rfl)
    refine rfai (off := 0) (s := 1) (r := false) rfl rfl rfl (Nat.succ_ne_zero _) rfl rfl rfl rfl ?_
    refine rlic (v := .int _ _) rfl rfl rfl rfl rfl rfl rfl rfl ?_
    refine rmI rfl rfl rfl rfl rfl ?_
    refine rne rfl rfl rfl rfl rfl rfl (fun h => absurd h ((fun hh => hh rfl))) ?_
    intro h4_6
    refine rNil ?_
    refine qSeq ?_
    refine wF rfl ?_
    refine wSkip ?_
    refine qSeq ?_
    refine wSeq ?_
    refine wRegion ?_
    refine rmI rfl rfl rfl rfl rfl ?_
    refine raddF rfl rfl rfl ?_ ?_ rfl rfl rfl ?_
    · omega
    · omega
    refine raI rfl rfl rfl rfl rfl ?_
    refine rNil ?_
    refine qSeq ?_
    refine wSeq ?_
    refine wSeq ?_
    refine wRegion ?_
    refine rmL rfl rfl rfl rfl rfl ?_
    refine rmI rfl rfl rfl rfl rfl ?_
    (apply rixl rfl rfl rfl rfl; (first | omega | assumption | (focus (simp; omega))); (first | rfl | assumption | exact hx (by omega)); rfl; rfl; rfl; rfl)
    refine rfai (off := 1) (s := 1) (r := false) rfl rfl rfl (Nat.succ_ne_zero _) rfl rfl rfl rfl ?_
    refine rlic (v := .int _ _) rfl rfl rfl rfl rfl rfl rfl rfl ?_
    refine rmI rfl rfl rfl rfl rfl ?_
    refine rne rfl rfl rfl rfl rfl rfl (fun h => absurd h ((fun hh => hh rfl))) ?_
    intro h7_6
    refine rNil ?_
    refine qSeq ?_
    refine wF rfl ?_
    refine wSkip ?_
    refine qSeq ?_
    refine wSeq ?_
    refine wRegion ?_
    refine rmI rfl rfl rfl rfl rfl ?_
    refine raddF rfl rfl rfl ?_ ?_ rfl rfl rfl ?_
    · omega
    · omega
    refine raI rfl rfl rfl rfl rfl ?_
    refine rNil ?_
    refine qSeq ?_
    refine wSeq ?_
    refine wSeq ?_
    refine wRegion ?_
    refine rmL rfl rfl rfl rfl rfl ?_
    refine rmI rfl rfl rfl rfl rfl ?_
    (apply rixl rfl rfl rfl rfl; (first | omega | assumption | (focus (simp; omega))); (first | rfl | assumption | exact hx (by omega)); rfl; rfl; rfl; rfl)
    refine rfai (off := 2) (s := 4) (r := true) rfl rfl rfl (Nat.succ_ne_zero _) rfl rfl rfl rfl ?_
    refine rfai (off := 0) (s := 1) (r := false) rfl rfl rfl (Nat.succ_ne_zero _) rfl rfl rfl rfl ?_
    refine rlic (v := .int _ _) rfl rfl rfl rfl rfl rfl rfl rfl ?_
    refine rmI rfl rfl rfl rfl rfl ?_
    refine rne rfl rfl rfl rfl rfl rfl (fun h => absurd h ((fun hh => hh rfl))) ?_
    intro h10_7
    refine rNil ?_
    refine qSeq ?_
    refine wF rfl ?_
    refine wSkip ?_
    refine qSeq ?_
    refine wSeq ?_
    refine wRegion ?_
    refine rmI rfl rfl rfl rfl rfl ?_
    refine raddF rfl rfl rfl ?_ ?_ rfl rfl rfl ?_
    · omega
    · omega
    refine raI rfl rfl rfl rfl rfl ?_
    refine rNil ?_
    refine qSeq ?_
    refine wSeq ?_
    refine wSeq ?_
    refine wRegion ?_
    refine rmL rfl rfl rfl rfl rfl ?_
    refine rmI rfl rfl rfl rfl rfl ?_
    (apply rixl rfl rfl rfl rfl; (first | omega | assumption | (focus (simp; omega))); (first | rfl | assumption | exact hx (by omega)); rfl; rfl; rfl; rfl)
    refine rfai (off := 2) (s := 4) (r := true) rfl rfl rfl (Nat.succ_ne_zero _) rfl rfl rfl rfl ?_
    refine rfai (off := 1) (s := 1) (r := false) rfl rfl rfl (Nat.succ_ne_zero _) rfl rfl rfl rfl ?_
    refine rlic (v := .int _ _) rfl rfl rfl rfl rfl rfl rfl rfl ?_
    refine rmI rfl rfl rfl rfl rfl ?_
    refine rne rfl rfl rfl rfl rfl rfl (fun h => absurd h ((fun hh => hh rfl))) ?_
    intro h13_7
    refine rNil ?_
    refine qSeq ?_
    refine wF rfl ?_
    refine wSkip ?_
    refine qSeq ?_
    refine wSeq ?_
    refine wRegion ?_
    refine rmI rfl rfl rfl rfl rfl ?_
    refine raddF rfl rfl rfl ?_ ?_ rfl rfl rfl ?_
    · omega
    · omega
    refine raI rfl rfl rfl rfl rfl ?_
    refine rNil ?_
    refine qSeq ?_
    refine wSeq ?_
    refine wSeq ?_
    refine wRegion ?_
    refine rmL rfl rfl rfl rfl rfl ?_
    refine rmI rfl rfl rfl rfl rfl ?_
    (apply rixl rfl rfl rfl rfl; (first | omega | assumption | (focus (simp; omega))); (first | rfl | assumption | exact hx (by omega)); rfl; rfl; rfl; rfl)
    refine rfai (off := 2) (s := 4) (r := true) rfl rfl rfl (Nat.succ_ne_zero _) rfl rfl rfl rfl ?_
    refine rfai (off := 2) (s := 1) (r := false) rfl rfl rfl (Nat.succ_ne_zero _) rfl rfl rfl rfl ?_
    refine rlic (v := .int _ _) rfl rfl rfl rfl rfl rfl rfl rfl ?_
    refine rmI rfl rfl rfl rfl rfl ?_
    refine rne rfl rfl rfl rfl rfl rfl (fun h => absurd h ((fun hh => hh rfl))) ?_
    intro h16_7
    refine rNil ?_
    refine qSeq ?_
    refine wF rfl ?_
    refine wSkip ?_
    refine qSeq ?_
    refine wSeq ?_
    refine wRegion ?_
    refine rmI rfl rfl rfl rfl rfl ?_
    refine raddF rfl rfl rfl ?_ ?_ rfl rfl rfl ?_
    · omega
    · omega
    refine raI rfl rfl rfl rfl rfl ?_
    refine rNil ?_
    refine qSeq ?_
    refine wSeq ?_
    refine wSeq ?_
    refine wRegion ?_
    refine rmL rfl rfl rfl rfl rfl ?_
    refine rmI rfl rfl rfl rfl rfl ?_
    (apply rixl rfl rfl rfl rfl; (first | omega | assumption | (focus (simp; omega))); (first | rfl | assumption | exact hx (by omega)); rfl; rfl; rfl; rfl)
    refine rfai (off := 2) (s := 4) (r := true) rfl rfl rfl (Nat.succ_ne_zero _) rfl rfl rfl rfl ?_
    refine rfai (off := 3) (s := 1) (r := false) rfl rfl rfl (Nat.succ_ne_zero _) rfl rfl rfl rfl ?_
    refine rlic (v := .int _ _) rfl rfl rfl rfl rfl rfl rfl rfl ?_
    refine rmI rfl rfl rfl rfl rfl ?_
    refine rne rfl rfl rfl rfl rfl rfl (fun h => absurd h ((fun hh => hh rfl))) ?_
    intro h19_7
    refine rNil ?_
    refine qSeq ?_
    refine wF rfl ?_
    refine wSkip ?_
    refine qSeq ?_
    refine wRegion ?_
    refine rmI rfl rfl rfl rfl rfl ?_
    refine raddF rfl rfl rfl ?_ ?_ rfl rfl rfl ?_
    · omega
    · omega
    refine raI rfl rfl rfl rfl rfl ?_
    refine rNil ?_
    refine qBlock ?_
    refine qSeq ?_
    refine wRegion ?_
    refine rmI rfl rfl rfl rfl rfl ?_
    refine raddF rfl rfl rfl ?_ ?_ rfl rfl rfl ?_
    · omega
    · omega
    refine raI rfl rfl rfl rfl rfl ?_
    refine rNil ?_
    refine qLoop ?_
    exact wlN (ih (i + 1, y + 1 + 1 + 1 + 1 + 1 + 1) ⟨by dsimp only; omega, by dsimp only; omega⟩ (by dsimp only; omega)) (by (repeat first | exact LE.nil _ | refine LE.unk _ _ ?_ | refine LE.eq _ _ _ rfl ?_))
  · refine rNil ?_
    refine qSeq ?_
    refine wF rfl ?_
    refine wExit ?_
    refine qSeqX ?_
    refine qLoopX ?_
    refine qBlockX ?_
    refine qSeq ?_
    refine wSeq ?_
    refine wRegion ?_
    refine rmI rfl rfl rfl rfl rfl ?_
    refine raI rfl rfl rfl rfl rfl ?_
    refine rNil ?_
    refine qSeq ?_
    refine wRet ?_
    obtain rfl : i = m := by omega
    exact finE rfl rfl (by rw [hI.2])
theorem s20 (tm nx : Int) (b n1 n2 : Bool) (L : List Lk) (m : Nat) (k : Int) (hk : 0 ≤ k ∧ k ≤ 1000000) (hL : L.length ≤ 1048577) (hW : ∀ i, i < L.length → (L.getD i Lk0).ws.length ≤ 1048577) (hm : m ≤ 1048577) : Pure En 20 [.agg [.int .i64 tm, .int .i64 nx, .sl n1 ((ML k L).map (Lk.T b)), .sl n2 ((MS (kL k L) m).map Sn.T)], .one (.int .i64 k)] [.one (.int .i64 (kL k L + 6 * (m : Int)))] := by
  have hbd := kL_bd (k := k) hW
  refine Pure.of_wp Try.func20 rfl (Nat.le_of_ble_eq_true rfl) ?_
  refine wSeq ?_
  refine wRegion ?_
  refine rbx (u := .agg [.int _ _, .int _ _, _, _]) rfl rfl rfl rfl rfl rfl rfl ?_
  refine raI rfl rfl rfl rfl rfl ?_
  refine rNil ?_
  refine qSeq ?_
  refine wSeq ?_
  refine wRegion ?_
  refine rfa (off := 2) (s := 1) (r := false) rfl rfl rfl (Nat.succ_ne_zero _) rfl rfl rfl ?_
  (apply rlc (v := .sl _ _ _) rfl rfl; (first | ((simp (disch := omega) only [↓app0, ↓appC, ↓updS, ↓updN, ↓hpS, ↓hpN]) <;> first | rfl | assumption) | assumption | rfl); rfl; rfl; rfl; rfl; rfl; rfl)
  refine rmI rfl rfl rfl rfl rfl ?_
  refine rcl (s61 n1 b L k hk hL hW) rfl rfl rfl rfl rfl rfl ?_
  refine raI rfl rfl rfl rfl rfl ?_
  refine rNil ?_
  refine qSeq ?_
  refine wSeq ?_
  refine wSeq ?_
  refine wRegion ?_
  refine rmI rfl rfl rfl rfl rfl ?_
  refine rlt rfl rfl rfl rfl rfl rfl ?_ ?_ <;> intro h2_1
  · refine rNil ?_
    refine qSeq ?_
    refine wT rfl ?_
    refine wSeq ?_
    refine wRegion ?_
    refine raI rfl rfl rfl rfl rfl ?_
    refine rNil ?_
    refine qSeq ?_
    refine wRet ?_
    refine qSeqR ?_
    first | exact fin rfl rfl | omega
  · refine rNil ?_
    refine qSeq ?_
    refine wF rfl ?_
    refine wSkip ?_
    refine qSeq ?_
    refine wSeq ?_
    refine wRegion ?_
    refine rfa (off := 3) (s := 1) (r := false) rfl rfl rfl (Nat.succ_ne_zero _) rfl rfl rfl ?_
    (apply rlc (v := .sl _ _ _) rfl rfl; (first | ((simp (disch := omega) only [↓app0, ↓appC, ↓updS, ↓updN, ↓hpS, ↓hpN]) <;> first | rfl | assumption) | assumption | rfl); rfl; rfl; rfl; rfl; rfl; rfl)
    refine rmI rfl rfl rfl rfl rfl ?_
    refine rcl (s62 n2 (kL k L) m (by omega) hm) rfl rfl rfl rfl rfl rfl ?_
    refine raI rfl rfl rfl rfl rfl ?_
    refine rNil ?_
    refine qSeq ?_
    refine wSeq ?_
    refine wSeq ?_
    refine wRegion ?_
    refine rmI rfl rfl rfl rfl rfl ?_
    refine rlt rfl rfl rfl rfl rfl rfl ?_ ?_ <;> intro h5_1
    · refine rNil ?_
      refine qSeq ?_
      refine wT rfl ?_
      refine wSeq ?_
      refine wRegion ?_
      refine raI rfl rfl rfl rfl rfl ?_
      refine rNil ?_
      refine qSeq ?_
      refine wRet ?_
      refine qSeqR ?_
      first | exact fin rfl rfl | omega
    · refine rNil ?_
      refine qSeq ?_
      refine wF rfl ?_
      refine wSkip ?_
      refine qSeq ?_
      refine wSeq ?_
      refine wRegion ?_
      refine rmI rfl rfl rfl rfl rfl ?_
      refine raI rfl rfl rfl rfl rfl ?_
      refine rNil ?_
      refine qSeq ?_
      refine wRet ?_
      first | exact fin rfl rfl | omega
end Go.Proofs.Ytknnniaoboaghaa
