import Derived.Test.YtcafccndgpopkaaDoorU9
namespace Go.Proofs.YtcafccndgpopkaaDoor
open Go.V
set_option linter.unusedVariables false
set_option linter.unusedSimpArgs false
set_option maxRecDepth 20000
set_option maxHeartbeats 4000000

theorem wlC {E : Env} {sz : Nat} {k : Code} {t : Nat → V} {h : Heap} {n : Nat} {Q : Post} (w : ∀ h', h' = h → WL E sz k t h' n Q) : WL E sz k t h n Q := w h rfl
theorem rowsI (l : List Int) : l.map iV = rowsV (l.map iT) := by
  unfold rowsV
  rw [List.map_map]; rfl
theorem p28 (n c s : Int) (nn : Bool) (L : List Rp) (hL : L.length ≤ 1000) : Pure En 62 [.one (.int .i64 n), .one (.int .i64 c), .one (.int .i64 s), .one (.sl nn (L.map Rp.T))] [.agg ((dec n c s L).getD An0).T, .one (.bool (dec n c s L).isSome)] := by
  have hl : (L.map Rp.T).length = L.length := List.length_map ..
  refine Pure.of_wp Tryd.func62 rfl (Nat.le_of_ble_eq_true rfl) ?_
  refine wSeq ?_
  refine wRegion ?_
  refine ral rfl rfl rfl rfl rfl rfl ?_
  refine raB rfl rfl rfl rfl rfl ?_
  refine rNil ?_
  refine qSeq ?_
  refine wSeq ?_
  refine wRegion ?_
  refine rmkm rfl rfl rfl rfl ?_
  refine raM rfl rfl rfl rfl rfl ?_
  refine rNil ?_
  refine qSeq ?_
  refine wSeq ?_
  refine wSeq ?_
  refine wRegion ?_
  refine rmL rfl rfl rfl rfl rfl ?_
  refine rll rfl rfl rfl rfl rfl rfl ?_
  refine rmI rfl rfl rfl rfl rfl ?_
  refine rNil ?_
  refine qSeq ?_
  refine wBlock ?_
  refine wLoop ?_
  refine loopGo (fun (a : Nat × List Me × (An → List Int) × Heap × Nat) => [.int .i64 n, .int .i64 c, .int .i64 s, .unk, .unk, .unk, .unk, .unk, .ptr 0 0 0, .unk, .map 1, .unk, .unk, .unk, .sl false nn (L.map Rp.T), .int .i64 (L.map Rp.T).length, .int .i64 a.1]) (fun (a : Nat × List Me × (An → List Int) × Heap × Nat) => a.2.2.2.1) (fun (a : Nat × List Me × (An → List Int) × Heap × Nat) => a.2.2.2.2) (fun (a : Nat × List Me × (An → List Int) × Heap × Nat) => Inv n c s L a.1 a.2.1 a.2.2.1 a.2.2.2.1 a.2.2.2.2) (fun (a : Nat × List Me × (An → List Int) × Heap × Nat) => L.length - a.1) (0, [], fun _ => [], hp [(0, ⟨[An0.V], 4, 42⟩), (1, ⟨[], 0, 115⟩)], 2) ?_ ?_ ?_ ?_ ?_
  · exact ⟨Nat.zero_le _, Nat.le_refl _, rfl, rfl, fun _ h => absurd h List.not_mem_nil, fun _ h => absurd h List.not_mem_nil, fun _ h => absurd h List.not_mem_nil, fun _ _ _ _ h => by simp at h, fun _ h => absurd h List.not_mem_nil, fun _ _ => rfl, Nat.le_refl _, rfl⟩
  · (repeat first | exact LE.nil _ | refine LE.unk _ _ ?_ | refine LE.eq _ _ _ rfl ?_)
  · (repeat first | exact lessH0 | (refine lessHc ?_ ?_; (first | (first | ((simp (disch := omega) only [↓app0, ↓appC, ↓updS, ↓updN, ↓hpS, ↓hpN]) <;> first | rfl | assumption) | assumption | rfl) | fail)))
  · exact Nat.le_refl _
  intro ⟨i, M, f, hh, N⟩ hI ih
  dsimp only at hI ⊢
  have hn2 := hI.n2
  have hz := hI.z
  have hmp := hI.mp
  have hle := hI.le
  rcases Classical.em (∃ e ∈ M, e.an = (L.getD i Rp0).an) with ⟨e, hem, hea⟩ | hno
  · skip
    obtain ⟨j, hj⟩ := List.getElem?_of_mem hem
    obtain ⟨hb1, hb2, hb3⟩ := hI.bl e hem
    obtain ⟨hl1, hl2⟩ := hI.ln e hem
    have hfe : f (L.getD i Rp0).an = e.l := by rw [← hea]; exact hI.fe e hem
    have hg := rowGet hj hea
    have hu := rowUniq hI.di hj hea
    have hks := keysM hI.ok
    have hka := keyA (L.getD i Rp0).an (by rw [← hea]; exact hI.ok e hem)
    have hjl : j < M.length := (List.getElem?_eq_some_iff.1 hj).1
    have hrow : ((M.map Me.row).set j (Me.row ⟨(L.getD i Rp0).an, e.l ++ [(L.getD i Rp0).nd], e.ln + 1, N + 2⟩)) = (M.set j ⟨e.an, e.l ++ [(L.getD i Rp0).nd], e.ln + 1, N + 2⟩).map Me.row := by rw [hea, List.map_set]
    have hks2 : KeysOK En.P 42 ((M.map Me.row).set j (Me.row ⟨(L.getD i Rp0).an, e.l ++ [(L.getD i Rp0).nd], e.ln + 1, N + 2⟩)) := by
      rw [hrow]
      refine keysM fun x hx => ?_
      rcases List.mem_or_eq_of_mem_set hx with h | h
      · exact hI.ok x h
      · rw [h]; exact hI.ok e hem
    have hg2 : ((M.map Me.row).set j (Me.row ⟨(L.getD i Rp0).an, e.l ++ [(L.getD i Rp0).nd], e.ln + 1, N + 2⟩))[j]? = some [.agg (L.getD i Rp0).an.V, .view (N + 2) 0 (e.ln + 1)] := List.getElem?_set_self (by rw [List.length_map]; exact hjl)
    have hu2 : ∀ (k : Nat) (x : V), ((M.map Me.row).set j (Me.row ⟨(L.getD i Rp0).an, e.l ++ [(L.getD i Rp0).nd], e.ln + 1, N + 2⟩))[k]? = some [.agg (L.getD i Rp0).an.V, x] → k = j := fun k x hk => by
      by_cases h : k = j
      · exact h
      · rw [List.getElem?_set_ne (Ne.symm h)] at hk; exact hu k x hk
    refine lStep ?_
    refine wSeq ?_
    refine wRegion ?_
    refine rlt rfl rfl rfl rfl rfl rfl ?_ ?_ <;> intro h3_0
    · refine rNil ?_
      refine qSeq ?_
      refine wSeq ?_
      refine wT rfl ?_
      refine wSkip ?_
      refine qSeq ?_
      refine wSeq ?_
      refine wBlock ?_
      refine wSeq ?_
      refine wRegion ?_
      (apply rixl rfl rfl rfl rfl; (first | omega | assumption | (focus (simp; omega))); (first | rfl | assumption | (exact mapGet Rp.T Rp0 (by omega))); rfl; rfl; rfl; rfl)
      refine rlir (vs := [.int _ _, .int _ _, .int _ _, .int _ _, .int _ _, .int _ _, .int _ _, .str _]) rfl rfl rfl (Nat.le_of_ble_eq_true rfl) rfl rfl rfl rfl ?_
      refine ral rfl rfl rfl rfl rfl rfl ?_
      (apply rst (u := .agg [.int _ _, .int _ _, .int _ _, .int _ _, .int _ _, .int _ _, .int _ _, .str _]) rfl rfl rfl; (first | ((simp (disch := omega) only [↓app0, ↓appC, ↓updS, ↓updN, ↓hpS, ↓hpN]) <;> first | rfl | assumption) | assumption | rfl); rfl; rfl; rfl; rfl; rfl; (exact Nat.le_of_ble_eq_true rfl); rfl; rfl; rfl)
      refine rNil ?_
      refine qSeq ?_
      refine wSeq ?_
      refine wSeq ?_
      refine wDraw [0, 1, 0, 7, 15, 31, 63, 31, 255, 511, 1023, 2047, 2047, 8191, 16383, 32767, 65535, 131071, 131071, 393215, 1048575, 131071, 2228223, 8388607, 16777215] rfl (by decide +kernel) ?_
      refine dfa (off := 1) (s := 1) (r := false) rfl rfl rfl (Nat.succ_ne_zero _) rfl rfl rfl ?_
      (apply dlc (v := .int _ _) rfl rfl; (first | ((simp (disch := omega) only [↓app0, ↓appC, ↓updS, ↓updN, ↓hpS, ↓hpN]) <;> first | rfl | assumption) | assumption | rfl); rfl; rfl; rfl; rfl; rfl; rfl)
      refine dmI rfl rfl rfl rfl rfl ?_
      refine dne rfl rfl rfl rfl rfl rfl ?_ ?_ <;> intro h5_3
      · refine dmB rfl rfl rfl rfl rfl ?_
        refine dSkip rfl rfl rfl ?_
        refine dSkip rfl rfl rfl ?_
        refine dSkip rfl rfl rfl ?_
        refine dSkip rfl rfl rfl ?_
        refine dpk (e := true) rfl rfl rfl rfl rfl rfl ?_
        refine dmB rfl rfl rfl rfl rfl ?_
        refine dSkip rfl rfl rfl ?_
        refine dSkip rfl rfl rfl ?_
        refine dSkip rfl rfl rfl ?_
        refine dSkip rfl rfl rfl ?_
        refine dpk (e := true) rfl rfl rfl rfl rfl rfl ?_
        refine dmB rfl rfl rfl rfl rfl ?_
        refine dSkip rfl rfl rfl ?_
        refine dSkip rfl rfl rfl ?_
        refine dSkip rfl rfl rfl ?_
        refine dSkip rfl rfl rfl ?_
        refine dSkip rfl rfl rfl ?_
        refine dSkip rfl rfl rfl ?_
        refine dSkip rfl rfl rfl ?_
        refine dpk (e := true) rfl rfl rfl rfl rfl rfl ?_
        refine dNilR 25 [0, 0, 0, 0, 0, 0, 0, 0, 0, 0, 0, 0, 0, 0, 0, 0, 0, 0, 0, 0, 0, 0, 0, 1, 0] [] rfl rfl (by decide +kernel) trivial ?_
        refine qSeq ?_
        refine wT rfl ?_
        refine wExit ?_
        refine qSeqX ?_
        refine qBlockX ?_
        refine qSeq ?_
        refine wRegion ?_
        refine raddF rfl rfl rfl ?_ ?_ rfl rfl rfl ?_
        · (first | omega | (have hnn := h5_13.1; unfold nodes at hnn; omega))
        · (first | omega | (have hnn := h5_13.1; unfold nodes at hnn; omega))
        refine rmI rfl rfl rfl rfl rfl ?_
        refine rNil ?_
        refine qLoop ?_
        refine wlC fun h2 he => ?_
        first
          | exact wlH (ih (i + 1, M, f, h2, N + 1) (hI.skip (by omega) (by first | exact .inl h5_3 | exact .inr (.inl h5_8) | exact .inr (.inr (.inl h5_13)) | exact .inr (.inr (.inr (by rw [hfe]; exact h5_23)))) (Nat.le_succ _) (fun id hid => by rw [he]; simp (disch := omega) only [↓app0, ↓appC, ↓updN])) (by dsimp only; omega)) (by (repeat first | exact LE.nil _ | refine LE.unk _ _ ?_ | refine LE.eq _ _ _ rfl ?_)) (LessH.refl _) (Nat.le_refl _)
          | exact wlH (ih (i + 1, M.set j ⟨e.an, e.l ++ [(L.getD i Rp0).nd], e.ln + 1, N + 2⟩, addF f (L.getD i Rp0), h2, N + 3) (hI.hit (by omega) (fun hs => hs.elim h5_3 (fun h => h.elim h5_8 (fun h => h.elim (fun h => h h5_13) (fun h => h5_23 (by rwa [hfe] at h))))) (by rw [hfe, hl1]; exact h7_8) hj hea (fun id q1 q2 q3 => by rw [he]; simp (disch := omega) only [↓app0, ↓appC, ↓updN]) (by rw [he]; simp (disch := omega) only [↓app0, ↓appC, ↓updS, ↓updN]; exact congrArg (fun z => some (Blk.mk z 0 115)) hrow) (by rw [he]; simp (disch := omega) only [↓app0, ↓appC, ↓updS, ↓updN]; rw [List.map_append]; rfl)) (by dsimp only; omega)) (by (repeat first | exact LE.nil _ | refine LE.unk _ _ ?_ | refine LE.eq _ _ _ rfl ?_)) (LessH.refl _) (Nat.le_refl _)
      · refine dmB rfl rfl rfl rfl rfl ?_
        refine dfa (off := 2) (s := 1) (r := false) rfl rfl rfl (Nat.succ_ne_zero _) rfl rfl rfl ?_
        (apply dlc (v := .int _ _) rfl rfl; (first | ((simp (disch := omega) only [↓app0, ↓appC, ↓updS, ↓updN, ↓hpS, ↓hpN]) <;> first | rfl | assumption) | assumption | rfl); rfl; rfl; rfl; rfl; rfl; rfl)
        refine dmI rfl rfl rfl rfl rfl ?_
        refine dne rfl rfl rfl rfl rfl rfl ?_ ?_ <;> intro h5_8
        · refine dpk (e := true) rfl rfl rfl rfl rfl rfl ?_
          refine dmB rfl rfl rfl rfl rfl ?_
          refine dSkip rfl rfl rfl ?_
          refine dSkip rfl rfl rfl ?_
          refine dSkip rfl rfl rfl ?_
          refine dSkip rfl rfl rfl ?_
          refine dpk (e := true) rfl rfl rfl rfl rfl rfl ?_
          refine dmB rfl rfl rfl rfl rfl ?_
          refine dSkip rfl rfl rfl ?_
          refine dSkip rfl rfl rfl ?_
          refine dSkip rfl rfl rfl ?_
          refine dSkip rfl rfl rfl ?_
          refine dSkip rfl rfl rfl ?_
          refine dSkip rfl rfl rfl ?_
          refine dSkip rfl rfl rfl ?_
          refine dpk (e := true) rfl rfl rfl rfl rfl rfl ?_
          refine dNilR 25 [0, 0, 0, 0, 0, 0, 0, 0, 0, 0, 0, 0, 0, 0, 0, 0, 0, 0, 1, 0, 0, 0, 0, 1, 0] [] rfl rfl (by decide +kernel) trivial ?_
          refine qSeq ?_
          refine wT rfl ?_
          refine wExit ?_
          refine qSeqX ?_
          refine qBlockX ?_
          refine qSeq ?_
          refine wRegion ?_
          refine raddF rfl rfl rfl ?_ ?_ rfl rfl rfl ?_
          · (first | omega | (have hnn := h5_13.1; unfold nodes at hnn; omega))
          · (first | omega | (have hnn := h5_13.1; unfold nodes at hnn; omega))
          refine rmI rfl rfl rfl rfl rfl ?_
          refine rNil ?_
          refine qLoop ?_
          refine wlC fun h2 he => ?_
          first
            | exact wlH (ih (i + 1, M, f, h2, N + 1) (hI.skip (by omega) (by first | exact .inl h5_3 | exact .inr (.inl h5_8) | exact .inr (.inr (.inl h5_13)) | exact .inr (.inr (.inr (by rw [hfe]; exact h5_23)))) (Nat.le_succ _) (fun id hid => by rw [he]; simp (disch := omega) only [↓app0, ↓appC, ↓updN])) (by dsimp only; omega)) (by (repeat first | exact LE.nil _ | refine LE.unk _ _ ?_ | refine LE.eq _ _ _ rfl ?_)) (LessH.refl _) (Nat.le_refl _)
            | exact wlH (ih (i + 1, M.set j ⟨e.an, e.l ++ [(L.getD i Rp0).nd], e.ln + 1, N + 2⟩, addF f (L.getD i Rp0), h2, N + 3) (hI.hit (by omega) (fun hs => hs.elim h5_3 (fun h => h.elim h5_8 (fun h => h.elim (fun h => h h5_13) (fun h => h5_23 (by rwa [hfe] at h))))) (by rw [hfe, hl1]; exact h7_8) hj hea (fun id q1 q2 q3 => by rw [he]; simp (disch := omega) only [↓app0, ↓appC, ↓updN]) (by rw [he]; simp (disch := omega) only [↓app0, ↓appC, ↓updS, ↓updN]; exact congrArg (fun z => some (Blk.mk z 0 115)) hrow) (by rw [he]; simp (disch := omega) only [↓app0, ↓appC, ↓updS, ↓updN]; rw [List.map_append]; rfl)) (by dsimp only; omega)) (by (repeat first | exact LE.nil _ | refine LE.unk _ _ ?_ | refine LE.eq _ _ _ rfl ?_)) (LessH.refl _) (Nat.le_refl _)
        · refine dpk (e := false) rfl rfl rfl rfl rfl rfl ?_
          refine dmB rfl rfl rfl rfl rfl ?_
          refine dmI rfl rfl rfl rfl rfl ?_
          (apply dlr (vs := [.int _ _, .int _ _, .int _ _, .int _ _, .int _ _, .int _ _, .int _ _, .str _]) rfl rfl; (first | ((simp (disch := omega) only [↓app0, ↓appC, ↓updS, ↓updN, ↓hpS, ↓hpN]) <;> first | rfl | assumption) | assumption | rfl); rfl; rfl; (exact Nat.le_of_ble_eq_true rfl); rfl; rfl; rfl; rfl)
          refine dclP (p27 n (L.getD i Rp0)) rfl rfl rfl rfl rfl rfl ?_ ?_ <;> intro h5_13
          · refine dnot (c := true) rfl rfl rfl rfl rfl ?_
            refine dpk (e := false) rfl rfl rfl rfl rfl rfl ?_
            refine dmB rfl rfl rfl rfl rfl ?_
            refine dmM rfl rfl rfl rfl rfl ?_
            refine dfa (off := 3) (s := 4) (r := true) rfl rfl rfl (Nat.succ_ne_zero _) rfl rfl rfl ?_
            (apply dlr (vs := [.int _ _, .int _ _, .int _ _, .int _ _]) rfl rfl; (first | ((simp (disch := omega) only [↓app0, ↓appC, ↓updS, ↓updN, ↓hpS, ↓hpN]) <;> first | rfl | assumption) | assumption | rfl); rfl; rfl; (exact Nat.le_of_ble_eq_true rfl); rfl; rfl; rfl; rfl)
            (apply dlkh (m := j) (v := .view e.id 0 e.ln) rfl rfl rfl keyL; ((simp (disch := omega) only [↓app0, ↓appC, ↓updS, ↓updN]) <;> first | rfl | assumption); exact hks; rfl; exact hka; exact hg; exact hu; rfl; rfl; rfl)
            refine dfa (off := 0) (s := 1) (r := false) rfl rfl rfl (Nat.succ_ne_zero _) rfl rfl rfl ?_
            (apply dlc (v := .int _ _) rfl rfl; (first | ((simp (disch := omega) only [↓app0, ↓appC, ↓updS, ↓updN, ↓hpS, ↓hpN]) <;> first | rfl | assumption) | assumption | rfl); rfl; rfl; rfl; rfl; rfl; rfl)
            apply dclSP [e.id] (p41 true e.l _ (by omega)) rfl rfl rfl
            · exact SnapL.cons _ _ _ _ (.one _ _ (snapView (b := ⟨e.l.map iV, 1, 3⟩) (e.l.map iT) (List.mem_singleton.2 rfl) (by ((simp (disch := omega) only [↓app0, ↓appC, ↓updS, ↓updN]) <;> first | rfl | assumption)) (rowsI e.l) (by rw [List.length_map]; omega))) (SnapL.cons _ _ _ _ (.one _ _ (.int _ _)) SnapL.nil)
            · rfl
            · rfl
            · rfl
            all_goals intro h5_23
            · refine dpk (e := true) rfl rfl rfl rfl rfl rfl ?_
              refine dNilR 25 [0, 1, 1, 0, 1, 1, 0, 0, 0, 0, 0, 0, 1, 0, 0, 0, 0, 0, 1, 0, 0, 0, 0, 1, 0] [] rfl rfl (by decide +kernel) trivial ?_
              refine qSeq ?_
              refine wT rfl ?_
              refine wExit ?_
              refine qSeqX ?_
              refine qBlockX ?_
              refine qSeq ?_
              refine wRegion ?_
              refine raddF rfl rfl rfl ?_ ?_ rfl rfl rfl ?_
              · (first | omega | (have hnn := h5_13.1; unfold nodes at hnn; omega))
              · (first | omega | (have hnn := h5_13.1; unfold nodes at hnn; omega))
              refine rmI rfl rfl rfl rfl rfl ?_
              refine rNil ?_
              refine qLoop ?_
              refine wlC fun h2 he => ?_
              first
                | exact wlH (ih (i + 1, M, f, h2, N + 1) (hI.skip (by omega) (by first | exact .inl h5_3 | exact .inr (.inl h5_8) | exact .inr (.inr (.inl h5_13)) | exact .inr (.inr (.inr (by rw [hfe]; exact h5_23)))) (Nat.le_succ _) (fun id hid => by rw [he]; simp (disch := omega) only [↓app0, ↓appC, ↓updN])) (by dsimp only; omega)) (by (repeat first | exact LE.nil _ | refine LE.unk _ _ ?_ | refine LE.eq _ _ _ rfl ?_)) (LessH.refl _) (Nat.le_refl _)
                | exact wlH (ih (i + 1, M.set j ⟨e.an, e.l ++ [(L.getD i Rp0).nd], e.ln + 1, N + 2⟩, addF f (L.getD i Rp0), h2, N + 3) (hI.hit (by omega) (fun hs => hs.elim h5_3 (fun h => h.elim h5_8 (fun h => h.elim (fun h => h h5_13) (fun h => h5_23 (by rwa [hfe] at h))))) (by rw [hfe, hl1]; exact h7_8) hj hea (fun id q1 q2 q3 => by rw [he]; simp (disch := omega) only [↓app0, ↓appC, ↓updN]) (by rw [he]; simp (disch := omega) only [↓app0, ↓appC, ↓updS, ↓updN]; exact congrArg (fun z => some (Blk.mk z 0 115)) hrow) (by rw [he]; simp (disch := omega) only [↓app0, ↓appC, ↓updS, ↓updN]; rw [List.map_append]; rfl)) (by dsimp only; omega)) (by (repeat first | exact LE.nil _ | refine LE.unk _ _ ?_ | refine LE.eq _ _ _ rfl ?_)) (LessH.refl _) (Nat.le_refl _)
            · refine dpk (e := false) rfl rfl rfl rfl rfl rfl ?_
              refine dNilR 25 [0, 1, 1, 0, 1, 1, 0, 0, 0, 0, 0, 0, 1, 0, 0, 0, 0, 0, 1, 0, 0, 0, 0, 1, 0] [] rfl rfl (by decide +kernel) trivial ?_
              refine qSeq ?_
              refine wF rfl ?_
              refine wSkip ?_
              refine qSeq ?_
              refine wSeq ?_
              refine wRegion ?_
              refine rmM rfl rfl rfl rfl rfl ?_
              refine rfa (off := 3) (s := 4) (r := true) rfl rfl rfl (Nat.succ_ne_zero _) rfl rfl rfl ?_
              (apply rlr (vs := [.int _ _, .int _ _, .int _ _, .int _ _]) rfl rfl; (first | ((simp (disch := omega) only [↓app0, ↓appC, ↓updS, ↓updN, ↓hpS, ↓hpN]) <;> first | rfl | assumption) | assumption | rfl); rfl; rfl; (exact Nat.le_of_ble_eq_true rfl); rfl; rfl; rfl; rfl)
              refine rfa (off := 0) (s := 1) (r := false) rfl rfl rfl (Nat.succ_ne_zero _) rfl rfl rfl ?_
              (apply rlc (v := .int _ _) rfl rfl; (first | ((simp (disch := omega) only [↓app0, ↓appC, ↓updS, ↓updN, ↓hpS, ↓hpN]) <;> first | rfl | assumption) | assumption | rfl); rfl; rfl; rfl; rfl; rfl; rfl)
              refine rbs (es := [[.int _ _]]) rfl rfl rfl rfl (Nat.succ_ne_zero _) (Nat.le_of_ble_eq_true rfl) rfl rfl rfl rfl rfl ?_
              (apply rmeh (m := j) (v := .view e.id 0 e.ln) rfl rfl rfl keyL; ((simp (disch := omega) only [↓app0, ↓appC, ↓updS, ↓updN]) <;> first | rfl | assumption); exact hks; rfl; exact hka; exact hg; exact hu; rfl; rfl; rfl)
              refine rex rfl rfl rfl rfl rfl rfl ?_
              (apply rap (s' := 8) (es := [[.int _ _]]) rfl rfl; (first | ((simp (disch := omega) only [↓app0, ↓appC, ↓updS, ↓updN, ↓hpS, ↓hpN]) <;> first | rfl | assumption) | assumption | rfl); rfl; rfl; (first | rfl | omega | (show _ = (List.map iV e.l).length; rw [List.length_map]; omega)); rfl; rfl; exact (Nat.succ_ne_zero _); (first | rfl | (apply srcView rfl; (first | ((simp (disch := omega) only [↓app0, ↓appC, ↓updS, ↓updN, ↓hpS, ↓hpN]) <;> first | rfl | assumption) | assumption | rfl); (first | exact Nat.le_refl _ | omega); rfl)); (first | rfl | assumption | (focus (simp; done)) | (focus (intro _ hc; rw [List.mem_singleton] at hc; subst hc; rfl)) | (intro _ _; simp_all)); (first | omega | (focus (simp only [List.length_cons, List.length_nil]; omega)) | ((show (_ + 1) * _ ≤ _); omega) | ((show _ + 1 ≤ _); omega)); (first | omega | (focus (simp only [List.length_cons, List.length_nil]; omega)) | ((show (_ + 1) * _ ≤ _); omega) | ((show _ + 1 ≤ _); omega)); rfl; rfl; rfl)
              refine rex rfl rfl rfl rfl rfl rfl ?_
              (apply res (m := j) (kv := .agg (L.getD i Rp0).an.V) (vv := .view e.id 0 e.ln) (u := .view _ _ _) rfl rfl rfl rfl; ((simp (disch := omega) only [↓app0, ↓appC, ↓updS, ↓updN]) <;> first | rfl | assumption); exact hg; rfl; rfl)
              refine rNil ?_
              refine qSeq ?_
              refine wSeq ?_
              refine wRegion ?_
              refine rmM rfl rfl rfl rfl rfl ?_
              refine rfa (off := 3) (s := 4) (r := true) rfl rfl rfl (Nat.succ_ne_zero _) rfl rfl rfl ?_
              (apply rlr (vs := [.int _ _, .int _ _, .int _ _, .int _ _]) rfl rfl; (first | ((simp (disch := omega) only [↓app0, ↓appC, ↓updS, ↓updN, ↓hpS, ↓hpN]) <;> first | rfl | assumption) | assumption | rfl); rfl; rfl; (exact Nat.le_of_ble_eq_true rfl); rfl; rfl; rfl; rfl)
              (apply rlkh (m := j) (v := .view (N + 2) 0 (e.ln + 1)) rfl rfl rfl keyL; ((simp (disch := omega) only [↓app0, ↓appC, ↓updS, ↓updN]) <;> first | rfl | assumption); exact hks2; rfl; exact hka; exact hg2; exact hu2; rfl; rfl; rfl)
              refine rll rfl rfl rfl rfl rfl rfl ?_
              refine rmI rfl rfl rfl rfl rfl ?_
              refine rsubF rfl rfl rfl ?_ ?_ rfl rfl rfl ?_
              · (first | omega | (have hnn := h5_13.1; unfold nodes at hnn; omega))
              · (first | omega | (have hnn := h5_13.1; unfold nodes at hnn; omega))
              refine rquo rfl rfl rfl ?_ rfl rfl rfl ?_
              · (first | omega | assumption | (focus (simp; omega)))
              refine rgt rfl rfl rfl rfl rfl rfl ?_ ?_ <;> intro h7_8
              · refine rNil ?_
                refine qSeq ?_
                refine wT rfl ?_
                refine wSeq ?_
                refine wRegion ?_
                refine rfa (off := 3) (s := 4) (r := true) rfl rfl rfl (Nat.succ_ne_zero _) rfl rfl rfl ?_
                (apply rlr (vs := [.int _ _, .int _ _, .int _ _, .int _ _]) rfl rfl; (first | ((simp (disch := omega) only [↓app0, ↓appC, ↓updS, ↓updN, ↓hpS, ↓hpN]) <;> first | rfl | assumption) | assumption | rfl); rfl; rfl; (exact Nat.le_of_ble_eq_true rfl); rfl; rfl; rfl; rfl)
                (apply rst (u := .agg [.int _ _, .int _ _, .int _ _, .int _ _]) rfl rfl rfl; (first | ((simp (disch := omega) only [↓app0, ↓appC, ↓updS, ↓updN, ↓hpS, ↓hpN]) <;> first | rfl | assumption) | assumption | rfl); rfl; rfl; rfl; rfl; rfl; (exact Nat.le_of_ble_eq_true rfl); rfl; rfl; rfl)
                refine raB rfl rfl rfl rfl rfl ?_
                refine rNil ?_
                refine qSeq ?_
                refine wRet ?_
                refine qBlockR ?_
                refine qSeqR ?_
                refine qLoopR ?_
                refine qBlockR ?_
                refine qSeqR ?_
                have hq := hI.found (by omega) (fun hs => hs.elim h5_3 (fun h => h.elim h5_8 (fun h => h.elim (fun h => h h5_13) (fun h => h5_23 (by rwa [hfe] at h))))) (by rw [hfe, hl1]; exact h7_8)
                rw [hq]; exact fin (resL_cons (resV_row rfl (by ((simp (disch := omega) only [↓app0, ↓appC, ↓updS, ↓updN]) <;> first | rfl | assumption)) rfl rfl (Nat.le_of_ble_eq_true rfl) rfl) (resL_cons rfl resL_nil)) rfl
              · refine rNil ?_
                refine qSeq ?_
                refine wF rfl ?_
                refine wSkip ?_
                refine qBlock ?_
                refine qSeq ?_
                refine wRegion ?_
                refine raddF rfl rfl rfl ?_ ?_ rfl rfl rfl ?_
                · (first | omega | (have hnn := h5_13.1; unfold nodes at hnn; omega))
                · (first | omega | (have hnn := h5_13.1; unfold nodes at hnn; omega))
                refine rmI rfl rfl rfl rfl rfl ?_
                refine rNil ?_
                refine qLoop ?_
                refine wlC fun h2 he => ?_
                first
                  | exact wlH (ih (i + 1, M, f, h2, N + 1) (hI.skip (by omega) (by first | exact .inl h5_3 | exact .inr (.inl h5_8) | exact .inr (.inr (.inl h5_13)) | exact .inr (.inr (.inr (by rw [hfe]; exact h5_23)))) (Nat.le_succ _) (fun id hid => by rw [he]; simp (disch := omega) only [↓app0, ↓appC, ↓updN])) (by dsimp only; omega)) (by (repeat first | exact LE.nil _ | refine LE.unk _ _ ?_ | refine LE.eq _ _ _ rfl ?_)) (LessH.refl _) (Nat.le_refl _)
                  | exact wlH (ih (i + 1, M.set j ⟨e.an, e.l ++ [(L.getD i Rp0).nd], e.ln + 1, N + 2⟩, addF f (L.getD i Rp0), h2, N + 3) (hI.hit (by omega) (fun hs => hs.elim h5_3 (fun h => h.elim h5_8 (fun h => h.elim (fun h => h h5_13) (fun h => h5_23 (by rwa [hfe] at h))))) (by rw [hfe, hl1]; exact h7_8) hj hea (fun id q1 q2 q3 => by rw [he]; simp (disch := omega) only [↓app0, ↓appC, ↓updN]) (by rw [he]; simp (disch := omega) only [↓app0, ↓appC, ↓updS, ↓updN]; exact congrArg (fun z => some (Blk.mk z 0 115)) hrow) (by rw [he]; simp (disch := omega) only [↓app0, ↓appC, ↓updS, ↓updN]; rw [List.map_append]; rfl)) (by dsimp only; omega)) (by (repeat first | exact LE.nil _ | refine LE.unk _ _ ?_ | refine LE.eq _ _ _ rfl ?_)) (LessH.refl _) (Nat.le_refl _)
          · refine dnot (c := false) rfl rfl rfl rfl rfl ?_
            refine dpk (e := true) rfl rfl rfl rfl rfl rfl ?_
            refine dmB rfl rfl rfl rfl rfl ?_
            refine dSkip rfl rfl rfl ?_
            refine dSkip rfl rfl rfl ?_
            refine dSkip rfl rfl rfl ?_
            refine dSkip rfl rfl rfl ?_
            refine dSkip rfl rfl rfl ?_
            refine dSkip rfl rfl rfl ?_
            refine dSkip rfl rfl rfl ?_
            refine dpk (e := true) rfl rfl rfl rfl rfl rfl ?_
            refine dNilR 25 [0, 0, 0, 0, 0, 0, 0, 0, 0, 0, 0, 0, 1, 0, 0, 0, 0, 0, 1, 0, 0, 0, 0, 1, 0] [] rfl rfl (by decide +kernel) trivial ?_
            refine qSeq ?_
            refine wT rfl ?_
            refine wExit ?_
            refine qSeqX ?_
            refine qBlockX ?_
            refine qSeq ?_
            refine wRegion ?_
            refine raddF rfl rfl rfl ?_ ?_ rfl rfl rfl ?_
            · (first | omega | (have hnn := h5_13.1; unfold nodes at hnn; omega))
            · (first | omega | (have hnn := h5_13.1; unfold nodes at hnn; omega))
            refine rmI rfl rfl rfl rfl rfl ?_
            refine rNil ?_
            refine qLoop ?_
            refine wlC fun h2 he => ?_
            first
              | exact wlH (ih (i + 1, M, f, h2, N + 1) (hI.skip (by omega) (by first | exact .inl h5_3 | exact .inr (.inl h5_8) | exact .inr (.inr (.inl h5_13)) | exact .inr (.inr (.inr (by rw [hfe]; exact h5_23)))) (Nat.le_succ _) (fun id hid => by rw [he]; simp (disch := omega) only [↓app0, ↓appC, ↓updN])) (by dsimp only; omega)) (by (repeat first | exact LE.nil _ | refine LE.unk _ _ ?_ | refine LE.eq _ _ _ rfl ?_)) (LessH.refl _) (Nat.le_refl _)
              | exact wlH (ih (i + 1, M.set j ⟨e.an, e.l ++ [(L.getD i Rp0).nd], e.ln + 1, N + 2⟩, addF f (L.getD i Rp0), h2, N + 3) (hI.hit (by omega) (fun hs => hs.elim h5_3 (fun h => h.elim h5_8 (fun h => h.elim (fun h => h h5_13) (fun h => h5_23 (by rwa [hfe] at h))))) (by rw [hfe, hl1]; exact h7_8) hj hea (fun id q1 q2 q3 => by rw [he]; simp (disch := omega) only [↓app0, ↓appC, ↓updN]) (by rw [he]; simp (disch := omega) only [↓app0, ↓appC, ↓updS, ↓updN]; exact congrArg (fun z => some (Blk.mk z 0 115)) hrow) (by rw [he]; simp (disch := omega) only [↓app0, ↓appC, ↓updS, ↓updN]; rw [List.map_append]; rfl)) (by dsimp only; omega)) (by (repeat first | exact LE.nil _ | refine LE.unk _ _ ?_ | refine LE.eq _ _ _ rfl ?_)) (LessH.refl _) (Nat.le_refl _)
    · refine rNil ?_
      refine qSeq ?_
      refine wSeq ?_
      refine wF rfl ?_
      refine wExit ?_
      refine qSeqX ?_
      refine qLoopX ?_
      refine qBlockX ?_
      refine qSeq ?_
      refine wSeq ?_
      refine wRegion ?_
      refine rbd (cs := [.int _ _, .int _ _, .int _ _, .int _ _]) rfl rfl rfl rfl rfl ?_
      (apply rst (u := .agg [.int _ _, .int _ _, .int _ _, .int _ _]) rfl rfl rfl; (first | ((simp (disch := omega) only [↓app0, ↓appC, ↓updS, ↓updN, ↓hpS, ↓hpN]) <;> first | rfl | assumption) | assumption | rfl); rfl; rfl; rfl; rfl; rfl; (exact Nat.le_of_ble_eq_true rfl); rfl; rfl; rfl)
      refine raB rfl rfl rfl rfl rfl ?_
      refine rNil ?_
      refine qSeq ?_
      refine wRet ?_
      have hq := hI.done (by omega)
      rw [hq]; exact fin (resL_cons (resV_row rfl (by ((simp (disch := omega) only [↓app0, ↓appC, ↓updS, ↓updN]) <;> first | rfl | assumption)) rfl rfl (Nat.le_of_ble_eq_true rfl) rfl) (resL_cons rfl resL_nil)) rfl
  · skip
    have hno2 : ∀ e ∈ M, e.an ≠ (L.getD i Rp0).an := fun e he q => hno ⟨e, he, q⟩
    have hfe : f (L.getD i Rp0).an = [] := hI.fn _ hno2
    have hks := keysM hI.ok
    have hn0 := rowNo hno2
    have hrow : ((M.map Me.row ++ [[V.agg (L.getD i Rp0).an.V, V.nsl]]).set (M.map Me.row).length [V.agg (L.getD i Rp0).an.V, V.view (N + 2) 0 1]) = (M ++ [Me.mk (L.getD i Rp0).an [(L.getD i Rp0).nd] 1 (N + 2)]).map Me.row := by rw [List.map_append]; simp; rfl
    have hks2 : (L.getD i Rp0).an.OK → KeysOK En.P 42 ((M.map Me.row ++ [[V.agg (L.getD i Rp0).an.V, V.nsl]]).set (M.map Me.row).length [V.agg (L.getD i Rp0).an.V, V.view (N + 2) 0 1]) := fun ho => by
      rw [hrow]
      refine keysM fun x hx => ?_
      rcases List.mem_append.1 hx with h | h
      · exact hI.ok x h
      · obtain rfl := List.mem_singleton.1 h; exact ho
    have hg2 : ((M.map Me.row ++ [[V.agg (L.getD i Rp0).an.V, V.nsl]]).set (M.map Me.row).length [V.agg (L.getD i Rp0).an.V, V.view (N + 2) 0 1])[(M.map Me.row).length]? = some [.agg (L.getD i Rp0).an.V, .view (N + 2) 0 1] := List.getElem?_set_self (by simp)
    have hu2 : ∀ (k : Nat) (x : V), ((M.map Me.row ++ [[V.agg (L.getD i Rp0).an.V, V.nsl]]).set (M.map Me.row).length [V.agg (L.getD i Rp0).an.V, V.view (N + 2) 0 1])[k]? = some [.agg (L.getD i Rp0).an.V, x] → k = (M.map Me.row).length := fun k x hk => by
      by_cases h : k = (M.map Me.row).length
      · exact h
      · rw [List.getElem?_set_ne (Ne.symm h)] at hk
        by_cases h2 : k < (M.map Me.row).length
        · rw [List.getElem?_append_left h2] at hk
          exact absurd rfl (hn0 k _ x hk)
        · have := (List.getElem?_eq_some_iff.1 hk).1
          simp at this h h2
          omega
    refine lStep ?_
    refine wSeq ?_
    refine wRegion ?_
    refine rlt rfl rfl rfl rfl rfl rfl ?_ ?_ <;> intro h3_0
    · refine rNil ?_
      refine qSeq ?_
      refine wSeq ?_
      refine wT rfl ?_
      refine wSkip ?_
      refine qSeq ?_
      refine wSeq ?_
      refine wBlock ?_
      refine wSeq ?_
      refine wRegion ?_
      (apply rixl rfl rfl rfl rfl; (first | omega | assumption | (focus (simp; omega))); (first | rfl | assumption | (exact mapGet Rp.T Rp0 (by omega))); rfl; rfl; rfl; rfl)
      refine rlir (vs := [.int _ _, .int _ _, .int _ _, .int _ _, .int _ _, .int _ _, .int _ _, .str _]) rfl rfl rfl (Nat.le_of_ble_eq_true rfl) rfl rfl rfl rfl ?_
      refine ral rfl rfl rfl rfl rfl rfl ?_
      (apply rst (u := .agg [.int _ _, .int _ _, .int _ _, .int _ _, .int _ _, .int _ _, .int _ _, .str _]) rfl rfl rfl; (first | ((simp (disch := omega) only [↓app0, ↓appC, ↓updS, ↓updN, ↓hpS, ↓hpN]) <;> first | rfl | assumption) | assumption | rfl); rfl; rfl; rfl; rfl; rfl; (exact Nat.le_of_ble_eq_true rfl); rfl; rfl; rfl)
      refine rNil ?_
      refine qSeq ?_
      refine wSeq ?_
      refine wSeq ?_
      refine wDraw [0, 1, 0, 7, 15, 31, 63, 31, 255, 511, 1023, 2047, 2047, 8191, 16383, 32767, 65535, 131071, 131071, 393215, 1048575, 131071, 2228223, 8388607, 16777215] rfl (by decide +kernel) ?_
      refine dfa (off := 1) (s := 1) (r := false) rfl rfl rfl (Nat.succ_ne_zero _) rfl rfl rfl ?_
      (apply dlc (v := .int _ _) rfl rfl; (first | ((simp (disch := omega) only [↓app0, ↓appC, ↓updS, ↓updN, ↓hpS, ↓hpN]) <;> first | rfl | assumption) | assumption | rfl); rfl; rfl; rfl; rfl; rfl; rfl)
      refine dmI rfl rfl rfl rfl rfl ?_
      refine dne rfl rfl rfl rfl rfl rfl ?_ ?_ <;> intro h5_3
      · refine dmB rfl rfl rfl rfl rfl ?_
        refine dSkip rfl rfl rfl ?_
        refine dSkip rfl rfl rfl ?_
        refine dSkip rfl rfl rfl ?_
        refine dSkip rfl rfl rfl ?_
        refine dpk (e := true) rfl rfl rfl rfl rfl rfl ?_
        refine dmB rfl rfl rfl rfl rfl ?_
        refine dSkip rfl rfl rfl ?_
        refine dSkip rfl rfl rfl ?_
        refine dSkip rfl rfl rfl ?_
        refine dSkip rfl rfl rfl ?_
        refine dpk (e := true) rfl rfl rfl rfl rfl rfl ?_
        refine dmB rfl rfl rfl rfl rfl ?_
        refine dSkip rfl rfl rfl ?_
        refine dSkip rfl rfl rfl ?_
        refine dSkip rfl rfl rfl ?_
        refine dSkip rfl rfl rfl ?_
        refine dSkip rfl rfl rfl ?_
        refine dSkip rfl rfl rfl ?_
        refine dSkip rfl rfl rfl ?_
        refine dpk (e := true) rfl rfl rfl rfl rfl rfl ?_
        refine dNilR 25 [0, 0, 0, 0, 0, 0, 0, 0, 0, 0, 0, 0, 0, 0, 0, 0, 0, 0, 0, 0, 0, 0, 0, 1, 0] [] rfl rfl (by decide +kernel) trivial ?_
        refine qSeq ?_
        refine wT rfl ?_
        refine wExit ?_
        refine qSeqX ?_
        refine qBlockX ?_
        refine qSeq ?_
        refine wRegion ?_
        refine raddF rfl rfl rfl ?_ ?_ rfl rfl rfl ?_
        · (first | omega | (have hnn := h5_13.1; unfold nodes at hnn; omega))
        · (first | omega | (have hnn := h5_13.1; unfold nodes at hnn; omega))
        refine rmI rfl rfl rfl rfl rfl ?_
        refine rNil ?_
        refine qLoop ?_
        refine wlC fun h2 he => ?_
        first
          | exact wlH (ih (i + 1, M, f, h2, N + 1) (hI.skip (by omega) (by first | exact .inl h5_3 | exact .inr (.inl h5_8) | exact .inr (.inr (.inl h5_13)) | exact .inr (.inr (.inr (by rw [hfe]; exact h5_23)))) (Nat.le_succ _) (fun id hid => by rw [he]; simp (disch := omega) only [↓app0, ↓appC, ↓updN])) (by dsimp only; omega)) (by (repeat first | exact LE.nil _ | refine LE.unk _ _ ?_ | refine LE.eq _ _ _ rfl ?_)) (LessH.refl _) (Nat.le_refl _)
          | exact wlH (ih (i + 1, M ++ [Me.mk (L.getD i Rp0).an [(L.getD i Rp0).nd] 1 (N + 2)], addF f (L.getD i Rp0), h2, N + 3) (hI.miss (by omega) (fun hs => hs.elim h5_3 (fun h => h.elim h5_8 (fun h => h.elim (fun h => h h5_13) (fun h => h5_23 (by rwa [hfe] at h))))) h5_13.2.1.2.2.2 (by rw [hfe]; exact h7_8) hno2 (fun id q1 q2 => by rw [he]; simp (disch := omega) only [↓app0, ↓appC, ↓updN]) (by rw [he]; simp (disch := omega) only [↓app0, ↓appC, ↓updS, ↓updN]; exact congrArg (fun z => some (Blk.mk z 0 115)) hrow) (by rw [he]; simp (disch := omega) only [↓app0, ↓appC, ↓updS, ↓updN]; rfl)) (by dsimp only; omega)) (by (repeat first | exact LE.nil _ | refine LE.unk _ _ ?_ | refine LE.eq _ _ _ rfl ?_)) (LessH.refl _) (Nat.le_refl _)
      · refine dmB rfl rfl rfl rfl rfl ?_
        refine dfa (off := 2) (s := 1) (r := false) rfl rfl rfl (Nat.succ_ne_zero _) rfl rfl rfl ?_
        (apply dlc (v := .int _ _) rfl rfl; (first | ((simp (disch := omega) only [↓app0, ↓appC, ↓updS, ↓updN, ↓hpS, ↓hpN]) <;> first | rfl | assumption) | assumption | rfl); rfl; rfl; rfl; rfl; rfl; rfl)
        refine dmI rfl rfl rfl rfl rfl ?_
        refine dne rfl rfl rfl rfl rfl rfl ?_ ?_ <;> intro h5_8
        · refine dpk (e := true) rfl rfl rfl rfl rfl rfl ?_
          refine dmB rfl rfl rfl rfl rfl ?_
          refine dSkip rfl rfl rfl ?_
          refine dSkip rfl rfl rfl ?_
          refine dSkip rfl rfl rfl ?_
          refine dSkip rfl rfl rfl ?_
          refine dpk (e := true) rfl rfl rfl rfl rfl rfl ?_
          refine dmB rfl rfl rfl rfl rfl ?_
          refine dSkip rfl rfl rfl ?_
          refine dSkip rfl rfl rfl ?_
          refine dSkip rfl rfl rfl ?_
          refine dSkip rfl rfl rfl ?_
          refine dSkip rfl rfl rfl ?_
          refine dSkip rfl rfl rfl ?_
          refine dSkip rfl rfl rfl ?_
          refine dpk (e := true) rfl rfl rfl rfl rfl rfl ?_
          refine dNilR 25 [0, 0, 0, 0, 0, 0, 0, 0, 0, 0, 0, 0, 0, 0, 0, 0, 0, 0, 1, 0, 0, 0, 0, 1, 0] [] rfl rfl (by decide +kernel) trivial ?_
          refine qSeq ?_
          refine wT rfl ?_
          refine wExit ?_
          refine qSeqX ?_
          refine qBlockX ?_
          refine qSeq ?_
          refine wRegion ?_
          refine raddF rfl rfl rfl ?_ ?_ rfl rfl rfl ?_
          · (first | omega | (have hnn := h5_13.1; unfold nodes at hnn; omega))
          · (first | omega | (have hnn := h5_13.1; unfold nodes at hnn; omega))
          refine rmI rfl rfl rfl rfl rfl ?_
          refine rNil ?_
          refine qLoop ?_
          refine wlC fun h2 he => ?_
          first
            | exact wlH (ih (i + 1, M, f, h2, N + 1) (hI.skip (by omega) (by first | exact .inl h5_3 | exact .inr (.inl h5_8) | exact .inr (.inr (.inl h5_13)) | exact .inr (.inr (.inr (by rw [hfe]; exact h5_23)))) (Nat.le_succ _) (fun id hid => by rw [he]; simp (disch := omega) only [↓app0, ↓appC, ↓updN])) (by dsimp only; omega)) (by (repeat first | exact LE.nil _ | refine LE.unk _ _ ?_ | refine LE.eq _ _ _ rfl ?_)) (LessH.refl _) (Nat.le_refl _)
            | exact wlH (ih (i + 1, M ++ [Me.mk (L.getD i Rp0).an [(L.getD i Rp0).nd] 1 (N + 2)], addF f (L.getD i Rp0), h2, N + 3) (hI.miss (by omega) (fun hs => hs.elim h5_3 (fun h => h.elim h5_8 (fun h => h.elim (fun h => h h5_13) (fun h => h5_23 (by rwa [hfe] at h))))) h5_13.2.1.2.2.2 (by rw [hfe]; exact h7_8) hno2 (fun id q1 q2 => by rw [he]; simp (disch := omega) only [↓app0, ↓appC, ↓updN]) (by rw [he]; simp (disch := omega) only [↓app0, ↓appC, ↓updS, ↓updN]; exact congrArg (fun z => some (Blk.mk z 0 115)) hrow) (by rw [he]; simp (disch := omega) only [↓app0, ↓appC, ↓updS, ↓updN]; rfl)) (by dsimp only; omega)) (by (repeat first | exact LE.nil _ | refine LE.unk _ _ ?_ | refine LE.eq _ _ _ rfl ?_)) (LessH.refl _) (Nat.le_refl _)
        · refine dpk (e := false) rfl rfl rfl rfl rfl rfl ?_
          refine dmB rfl rfl rfl rfl rfl ?_
          refine dmI rfl rfl rfl rfl rfl ?_
          (apply dlr (vs := [.int _ _, .int _ _, .int _ _, .int _ _, .int _ _, .int _ _, .int _ _, .str _]) rfl rfl; (first | ((simp (disch := omega) only [↓app0, ↓appC, ↓updS, ↓updN, ↓hpS, ↓hpN]) <;> first | rfl | assumption) | assumption | rfl); rfl; rfl; (exact Nat.le_of_ble_eq_true rfl); rfl; rfl; rfl; rfl)
          refine dclP (p27 n (L.getD i Rp0)) rfl rfl rfl rfl rfl rfl ?_ ?_ <;> intro h5_13
          · refine dnot (c := true) rfl rfl rfl rfl rfl ?_
            refine dpk (e := false) rfl rfl rfl rfl rfl rfl ?_
            refine dmB rfl rfl rfl rfl rfl ?_
            refine dmM rfl rfl rfl rfl rfl ?_
            refine dfa (off := 3) (s := 4) (r := true) rfl rfl rfl (Nat.succ_ne_zero _) rfl rfl rfl ?_
            (apply dlr (vs := [.int _ _, .int _ _, .int _ _, .int _ _]) rfl rfl; (first | ((simp (disch := omega) only [↓app0, ↓appC, ↓updS, ↓updN, ↓hpS, ↓hpN]) <;> first | rfl | assumption) | assumption | rfl); rfl; rfl; (exact Nat.le_of_ble_eq_true rfl); rfl; rfl; rfl; rfl)
            (apply dlkm (zv := .slice none 0 0) (v := .nsl) rfl rfl rfl keyL; ((simp (disch := omega) only [↓app0, ↓appC, ↓updS, ↓updN]) <;> first | rfl | assumption); exact hks; rfl; exact keyA _ h5_13.2.1.2.2.2; exact hn0; rfl; rfl; rfl; rfl; rfl)
            refine dfa (off := 0) (s := 1) (r := false) rfl rfl rfl (Nat.succ_ne_zero _) rfl rfl rfl ?_
            (apply dlc (v := .int _ _) rfl rfl; (first | ((simp (disch := omega) only [↓app0, ↓appC, ↓updS, ↓updN, ↓hpS, ↓hpN]) <;> first | rfl | assumption) | assumption | rfl); rfl; rfl; rfl; rfl; rfl; rfl)
            refine dclP (p41n _) rfl rfl rfl rfl rfl rfl ?_ ?_ <;> intro h5_23
            · refine dpk (e := true) rfl rfl rfl rfl rfl rfl ?_
              refine dNilR 25 [0, 0, 1, 0, 1, 1, 0, 0, 0, 0, 0, 0, 1, 0, 0, 0, 0, 0, 1, 0, 0, 0, 0, 1, 0] [] rfl rfl (by decide +kernel) trivial ?_
              refine qSeq ?_
              refine wT rfl ?_
              refine wExit ?_
              refine qSeqX ?_
              refine qBlockX ?_
              refine qSeq ?_
              refine wRegion ?_
              refine raddF rfl rfl rfl ?_ ?_ rfl rfl rfl ?_
              · (first | omega | (have hnn := h5_13.1; unfold nodes at hnn; omega))
              · (first | omega | (have hnn := h5_13.1; unfold nodes at hnn; omega))
              refine rmI rfl rfl rfl rfl rfl ?_
              refine rNil ?_
              refine qLoop ?_
              refine wlC fun h2 he => ?_
              first
                | exact wlH (ih (i + 1, M, f, h2, N + 1) (hI.skip (by omega) (by first | exact .inl h5_3 | exact .inr (.inl h5_8) | exact .inr (.inr (.inl h5_13)) | exact .inr (.inr (.inr (by rw [hfe]; exact h5_23)))) (Nat.le_succ _) (fun id hid => by rw [he]; simp (disch := omega) only [↓app0, ↓appC, ↓updN])) (by dsimp only; omega)) (by (repeat first | exact LE.nil _ | refine LE.unk _ _ ?_ | refine LE.eq _ _ _ rfl ?_)) (LessH.refl _) (Nat.le_refl _)
                | exact wlH (ih (i + 1, M ++ [Me.mk (L.getD i Rp0).an [(L.getD i Rp0).nd] 1 (N + 2)], addF f (L.getD i Rp0), h2, N + 3) (hI.miss (by omega) (fun hs => hs.elim h5_3 (fun h => h.elim h5_8 (fun h => h.elim (fun h => h h5_13) (fun h => h5_23 (by rwa [hfe] at h))))) h5_13.2.1.2.2.2 (by rw [hfe]; exact h7_8) hno2 (fun id q1 q2 => by rw [he]; simp (disch := omega) only [↓app0, ↓appC, ↓updN]) (by rw [he]; simp (disch := omega) only [↓app0, ↓appC, ↓updS, ↓updN]; exact congrArg (fun z => some (Blk.mk z 0 115)) hrow) (by rw [he]; simp (disch := omega) only [↓app0, ↓appC, ↓updS, ↓updN]; rfl)) (by dsimp only; omega)) (by (repeat first | exact LE.nil _ | refine LE.unk _ _ ?_ | refine LE.eq _ _ _ rfl ?_)) (LessH.refl _) (Nat.le_refl _)
            · refine dpk (e := false) rfl rfl rfl rfl rfl rfl ?_
              refine dNilR 25 [0, 0, 1, 0, 1, 1, 0, 0, 0, 0, 0, 0, 1, 0, 0, 0, 0, 0, 1, 0, 0, 0, 0, 1, 0] [] rfl rfl (by decide +kernel) trivial ?_
              refine qSeq ?_
              refine wF rfl ?_
              refine wSkip ?_
              refine qSeq ?_
              refine wSeq ?_
              refine wRegion ?_
              refine rmM rfl rfl rfl rfl rfl ?_
              refine rfa (off := 3) (s := 4) (r := true) rfl rfl rfl (Nat.succ_ne_zero _) rfl rfl rfl ?_
              (apply rlr (vs := [.int _ _, .int _ _, .int _ _, .int _ _]) rfl rfl; (first | ((simp (disch := omega) only [↓app0, ↓appC, ↓updS, ↓updN, ↓hpS, ↓hpN]) <;> first | rfl | assumption) | assumption | rfl); rfl; rfl; (exact Nat.le_of_ble_eq_true rfl); rfl; rfl; rfl; rfl)
              refine rfa (off := 0) (s := 1) (r := false) rfl rfl rfl (Nat.succ_ne_zero _) rfl rfl rfl ?_
              (apply rlc (v := .int _ _) rfl rfl; (first | ((simp (disch := omega) only [↓app0, ↓appC, ↓updS, ↓updN, ↓hpS, ↓hpN]) <;> first | rfl | assumption) | assumption | rfl); rfl; rfl; rfl; rfl; rfl; rfl)
              refine rbs (es := [[.int _ _]]) rfl rfl rfl rfl (Nat.succ_ne_zero _) (Nat.le_of_ble_eq_true rfl) rfl rfl rfl rfl rfl ?_
              (apply rmem (zv := .slice none 0 0) (v := .nsl) rfl rfl rfl keyL; ((simp (disch := omega) only [↓app0, ↓appC, ↓updS, ↓updN]) <;> first | rfl | assumption); exact hks; rfl; exact keyA _ h5_13.2.1.2.2.2; exact hn0; rfl; rfl; rfl; rfl; rfl)
              refine rex rfl rfl rfl rfl rfl rfl ?_
              (apply ran (s' := 8) (es := [[.int _ _]]) rfl rfl rfl rfl (Nat.succ_ne_zero _); (first | rfl | (apply srcView rfl; (first | ((simp (disch := omega) only [↓app0, ↓appC, ↓updS, ↓updN, ↓hpS, ↓hpN]) <;> first | rfl | assumption) | assumption | rfl); (first | exact Nat.le_refl _ | omega); rfl)); (first | rfl | assumption | (focus (simp; done)) | (focus (intro _ hc; rw [List.mem_singleton] at hc; subst hc; rfl)) | (intro _ _; simp_all)); (first | omega | (focus (simp only [List.length_cons, List.length_nil]; omega)) | ((show (_ + 1) * _ ≤ _); omega) | ((show _ + 1 ≤ _); omega)); (first | omega | (focus (simp only [List.length_cons, List.length_nil]; omega)) | ((show (_ + 1) * _ ≤ _); omega) | ((show _ + 1 ≤ _); omega)); (first | omega | (focus (simp only [List.length_cons, List.length_nil]; omega)) | ((show (_ + 1) * _ ≤ _); omega) | ((show _ + 1 ≤ _); omega)); rfl; rfl; rfl)
              refine rex rfl rfl rfl rfl rfl rfl ?_
              (apply res (m := (M.map Me.row).length) (kv := .agg (L.getD i Rp0).an.V) (vv := .nsl) (u := .view _ _ _) rfl rfl rfl rfl; ((simp (disch := omega) only [↓app0, ↓appC, ↓updS, ↓updN]) <;> first | rfl | assumption); exact List.getElem?_concat_length; rfl; rfl)
              refine rNil ?_
              refine qSeq ?_
              refine wSeq ?_
              refine wRegion ?_
              refine rmM rfl rfl rfl rfl rfl ?_
              refine rfa (off := 3) (s := 4) (r := true) rfl rfl rfl (Nat.succ_ne_zero _) rfl rfl rfl ?_
              (apply rlr (vs := [.int _ _, .int _ _, .int _ _, .int _ _]) rfl rfl; (first | ((simp (disch := omega) only [↓app0, ↓appC, ↓updS, ↓updN, ↓hpS, ↓hpN]) <;> first | rfl | assumption) | assumption | rfl); rfl; rfl; (exact Nat.le_of_ble_eq_true rfl); rfl; rfl; rfl; rfl)
              (apply rlkh (m := (M.map Me.row).length) (v := .view (N + 2) 0 1) rfl rfl rfl keyL; ((simp (disch := omega) only [↓app0, ↓appC, ↓updS, ↓updN]) <;> first | rfl | assumption); exact hks2 h5_13.2.1.2.2.2; rfl; exact keyA _ h5_13.2.1.2.2.2; exact hg2; exact hu2; rfl; rfl; rfl)
              refine rll rfl rfl rfl rfl rfl rfl ?_
              refine rmI rfl rfl rfl rfl rfl ?_
              refine rsubF rfl rfl rfl ?_ ?_ rfl rfl rfl ?_
              · (first | omega | (have hnn := h5_13.1; unfold nodes at hnn; omega))
              · (first | omega | (have hnn := h5_13.1; unfold nodes at hnn; omega))
              refine rquo rfl rfl rfl ?_ rfl rfl rfl ?_
              · (first | omega | assumption | (focus (simp; omega)))
              refine rgt rfl rfl rfl rfl rfl rfl ?_ ?_ <;> intro h7_8
              · refine rNil ?_
                refine qSeq ?_
                refine wT rfl ?_
                refine wSeq ?_
                refine wRegion ?_
                refine rfa (off := 3) (s := 4) (r := true) rfl rfl rfl (Nat.succ_ne_zero _) rfl rfl rfl ?_
                (apply rlr (vs := [.int _ _, .int _ _, .int _ _, .int _ _]) rfl rfl; (first | ((simp (disch := omega) only [↓app0, ↓appC, ↓updS, ↓updN, ↓hpS, ↓hpN]) <;> first | rfl | assumption) | assumption | rfl); rfl; rfl; (exact Nat.le_of_ble_eq_true rfl); rfl; rfl; rfl; rfl)
                (apply rst (u := .agg [.int _ _, .int _ _, .int _ _, .int _ _]) rfl rfl rfl; (first | ((simp (disch := omega) only [↓app0, ↓appC, ↓updS, ↓updN, ↓hpS, ↓hpN]) <;> first | rfl | assumption) | assumption | rfl); rfl; rfl; rfl; rfl; rfl; (exact Nat.le_of_ble_eq_true rfl); rfl; rfl; rfl)
                refine raB rfl rfl rfl rfl rfl ?_
                refine rNil ?_
                refine qSeq ?_
                refine wRet ?_
                refine qBlockR ?_
                refine qSeqR ?_
                refine qLoopR ?_
                refine qBlockR ?_
                refine qSeqR ?_
                have hq := hI.found (by omega) (fun hs => hs.elim h5_3 (fun h => h.elim h5_8 (fun h => h.elim (fun h => h h5_13) (fun h => h5_23 (by rwa [hfe] at h))))) (by rw [hfe]; exact h7_8)
                rw [hq]; exact fin (resL_cons (resV_row rfl (by ((simp (disch := omega) only [↓app0, ↓appC, ↓updS, ↓updN]) <;> first | rfl | assumption)) rfl rfl (Nat.le_of_ble_eq_true rfl) rfl) (resL_cons rfl resL_nil)) rfl
              · refine rNil ?_
                refine qSeq ?_
                refine wF rfl ?_
                refine wSkip ?_
                refine qBlock ?_
                refine qSeq ?_
                refine wRegion ?_
                refine raddF rfl rfl rfl ?_ ?_ rfl rfl rfl ?_
                · (first | omega | (have hnn := h5_13.1; unfold nodes at hnn; omega))
                · (first | omega | (have hnn := h5_13.1; unfold nodes at hnn; omega))
                refine rmI rfl rfl rfl rfl rfl ?_
                refine rNil ?_
                refine qLoop ?_
                refine wlC fun h2 he => ?_
                first
                  | exact wlH (ih (i + 1, M, f, h2, N + 1) (hI.skip (by omega) (by first | exact .inl h5_3 | exact .inr (.inl h5_8) | exact .inr (.inr (.inl h5_13)) | exact .inr (.inr (.inr (by rw [hfe]; exact h5_23)))) (Nat.le_succ _) (fun id hid => by rw [he]; simp (disch := omega) only [↓app0, ↓appC, ↓updN])) (by dsimp only; omega)) (by (repeat first | exact LE.nil _ | refine LE.unk _ _ ?_ | refine LE.eq _ _ _ rfl ?_)) (LessH.refl _) (Nat.le_refl _)
                  | exact wlH (ih (i + 1, M ++ [Me.mk (L.getD i Rp0).an [(L.getD i Rp0).nd] 1 (N + 2)], addF f (L.getD i Rp0), h2, N + 3) (hI.miss (by omega) (fun hs => hs.elim h5_3 (fun h => h.elim h5_8 (fun h => h.elim (fun h => h h5_13) (fun h => h5_23 (by rwa [hfe] at h))))) h5_13.2.1.2.2.2 (by rw [hfe]; exact h7_8) hno2 (fun id q1 q2 => by rw [he]; simp (disch := omega) only [↓app0, ↓appC, ↓updN]) (by rw [he]; simp (disch := omega) only [↓app0, ↓appC, ↓updS, ↓updN]; exact congrArg (fun z => some (Blk.mk z 0 115)) hrow) (by rw [he]; simp (disch := omega) only [↓app0, ↓appC, ↓updS, ↓updN]; rfl)) (by dsimp only; omega)) (by (repeat first | exact LE.nil _ | refine LE.unk _ _ ?_ | refine LE.eq _ _ _ rfl ?_)) (LessH.refl _) (Nat.le_refl _)
          · refine dnot (c := false) rfl rfl rfl rfl rfl ?_
            refine dpk (e := true) rfl rfl rfl rfl rfl rfl ?_
            refine dmB rfl rfl rfl rfl rfl ?_
            refine dSkip rfl rfl rfl ?_
            refine dSkip rfl rfl rfl ?_
            refine dSkip rfl rfl rfl ?_
            refine dSkip rfl rfl rfl ?_
            refine dSkip rfl rfl rfl ?_
            refine dSkip rfl rfl rfl ?_
            refine dSkip rfl rfl rfl ?_
            refine dpk (e := true) rfl rfl rfl rfl rfl rfl ?_
            refine dNilR 25 [0, 0, 0, 0, 0, 0, 0, 0, 0, 0, 0, 0, 1, 0, 0, 0, 0, 0, 1, 0, 0, 0, 0, 1, 0] [] rfl rfl (by decide +kernel) trivial ?_
            refine qSeq ?_
            refine wT rfl ?_
            refine wExit ?_
            refine qSeqX ?_
            refine qBlockX ?_
            refine qSeq ?_
            refine wRegion ?_
            refine raddF rfl rfl rfl ?_ ?_ rfl rfl rfl ?_
            · (first | omega | (have hnn := h5_13.1; unfold nodes at hnn; omega))
            · (first | omega | (have hnn := h5_13.1; unfold nodes at hnn; omega))
            refine rmI rfl rfl rfl rfl rfl ?_
            refine rNil ?_
            refine qLoop ?_
            refine wlC fun h2 he => ?_
            first
              | exact wlH (ih (i + 1, M, f, h2, N + 1) (hI.skip (by omega) (by first | exact .inl h5_3 | exact .inr (.inl h5_8) | exact .inr (.inr (.inl h5_13)) | exact .inr (.inr (.inr (by rw [hfe]; exact h5_23)))) (Nat.le_succ _) (fun id hid => by rw [he]; simp (disch := omega) only [↓app0, ↓appC, ↓updN])) (by dsimp only; omega)) (by (repeat first | exact LE.nil _ | refine LE.unk _ _ ?_ | refine LE.eq _ _ _ rfl ?_)) (LessH.refl _) (Nat.le_refl _)
              | exact wlH (ih (i + 1, M ++ [Me.mk (L.getD i Rp0).an [(L.getD i Rp0).nd] 1 (N + 2)], addF f (L.getD i Rp0), h2, N + 3) (hI.miss (by omega) (fun hs => hs.elim h5_3 (fun h => h.elim h5_8 (fun h => h.elim (fun h => h h5_13) (fun h => h5_23 (by rwa [hfe] at h))))) h5_13.2.1.2.2.2 (by rw [hfe]; exact h7_8) hno2 (fun id q1 q2 => by rw [he]; simp (disch := omega) only [↓app0, ↓appC, ↓updN]) (by rw [he]; simp (disch := omega) only [↓app0, ↓appC, ↓updS, ↓updN]; exact congrArg (fun z => some (Blk.mk z 0 115)) hrow) (by rw [he]; simp (disch := omega) only [↓app0, ↓appC, ↓updS, ↓updN]; rfl)) (by dsimp only; omega)) (by (repeat first | exact LE.nil _ | refine LE.unk _ _ ?_ | refine LE.eq _ _ _ rfl ?_)) (LessH.refl _) (Nat.le_refl _)
    · refine rNil ?_
      refine qSeq ?_
      refine wSeq ?_
      refine wF rfl ?_
      refine wExit ?_
      refine qSeqX ?_
      refine qLoopX ?_
      refine qBlockX ?_
      refine qSeq ?_
      refine wSeq ?_
      refine wRegion ?_
      refine rbd (cs := [.int _ _, .int _ _, .int _ _, .int _ _]) rfl rfl rfl rfl rfl ?_
      (apply rst (u := .agg [.int _ _, .int _ _, .int _ _, .int _ _]) rfl rfl rfl; (first | ((simp (disch := omega) only [↓app0, ↓appC, ↓updS, ↓updN, ↓hpS, ↓hpN]) <;> first | rfl | assumption) | assumption | rfl); rfl; rfl; rfl; rfl; rfl; (exact Nat.le_of_ble_eq_true rfl); rfl; rfl; rfl)
      refine raB rfl rfl rfl rfl rfl ?_
      refine rNil ?_
      refine qSeq ?_
      refine wRet ?_
      have hq := hI.done (by omega)
      rw [hq]; exact fin (resL_cons (resV_row rfl (by ((simp (disch := omega) only [↓app0, ↓appC, ↓updS, ↓updN]) <;> first | rfl | assumption)) rfl rfl (Nat.le_of_ble_eq_true rfl) rfl) (resL_cons rfl resL_nil)) rfl
end Go.Proofs.YtcafccndgpopkaaDoor
