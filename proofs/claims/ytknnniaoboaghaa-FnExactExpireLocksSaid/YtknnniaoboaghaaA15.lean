import Derived.Test.YtknnniaoboaghaaA14
namespace Go.Proofs.Ytknnniaoboaghaa
open Go.V
set_option linter.unusedVariables false
set_option linter.unusedSimpArgs false
set_option maxRecDepth 20000
set_option maxHeartbeats 4000000

/-! Time goes on. -/
theorem lkP_ex {w : Nat → Nat} {P : Nat → List (List V)} {tm nx : Int} {L : List Lk} : lkP w P (exL tm nx L) = (List.range L.length).map (rwP w P (exL tm nx L)) := by unfold lkP; rw [exL_len]
theorem wsEx {tm nx : Int} {L : List Lk} {i : Nat} (h : i < L.length) : wsF L i = wsP (fun i => exP tm (L.getD i Lk0)) (exL tm nx L) i := by
  unfold wsF wsP
  rw [exL_get h]
  dsimp only
  unfold exP exF
  by_cases hg : gone tm (L.getD i Lk0)
  · rw [if_pos hg, if_pos hg]
    cases (L.getD i Lk0).ws with
    | nil => rfl
    | cons a r => rfl
  · rw [if_neg hg, if_neg hg]; rfl
theorem exN_bd {tm nx : Int} {l : Lk} : nx ≤ exN tm nx l ∧ exN tm nx l ≤ nx + 1 := by unfold exN; split <;> omega
theorem o60 (L : List Lk) (tm nx now : Int) (Ss : V) (w : Nat → Nat) {M : Int} (hMx : max tm now = M) (hM : 0 ≤ M ∧ M ≤ 1000000000) (hn : 0 ≤ nx ∧ nx ≤ 999000) (hL : L.length ≤ 1000) (hwl : ∀ j, j < L.length → ∀ i, i < (L.getD j Lk0).ws.length → 1 ≤ ((L.getD j Lk0).ws.getD i (0, 0)).2 ∧ ((L.getD j Lk0).ws.getD i (0, 0)).2 ≤ 1000)
    {id lb : Nat} {h : Heap} {n : Nat} (hid : id < n) (hlb : lb < n) (hne : lb ≠ id) (hwn : ∀ i, i < L.length → w i < n) (hlw : ∀ i, i < L.length → w i ≠ lb) (hiw : ∀ i, i < L.length → w i ≠ id)
    (hh : h id = some ⟨[[.int .i64 tm, .int .i64 nx, .view lb 0 L.length, Ss]], 4, 35⟩) (k1 : h lb = some ⟨lkR w L, 5, 29⟩) (kf : ∀ i, i < L.length → h (w i) = wsF L i) :
    V.Open En 60 [.ptr id 0 0, .int .i64 now] h n (.tup []) [(id, some ⟨[[.int .i64 M, .int .i64 (nxL M nx L), .view lb 0 L.length, Ss]], 4, 35⟩), (lb, some ⟨lkP w (fun i => exP M (L.getD i Lk0)) (exL M nx L), 5, 29⟩)] (n + L.length) := by
  have hne2 : id ≠ lb := fun e => hne e.symm
  subst hMx
  refine V.Open.fresh rfl (by omega) fun hz => ?_
  refine V.Open.of_wp Try.func60 rfl (Nat.le_of_ble_eq_true rfl) ?_
  refine wSeq ?_
  refine wRegion ?_
  refine rmP rfl rfl rfl rfl rfl ?_
  refine rmP rfl rfl rfl rfl rfl ?_
  refine rnc (v := .ptr _ _ _) rfl rfl rfl rfl rfl rfl ?_
  refine rfa (off := 0) (s := 1) (r := false) rfl rfl rfl (Nat.succ_ne_zero _) rfl rfl rfl ?_
  (apply rlc (v := .int _ _) rfl rfl; (first | ((simp (disch := (first | omega | assumption)) only [↓appC, ↓updN, ↓updS, ↓app0, ↓hpS, ↓hpN]) <;> first | rfl | assumption) | assumption | rfl); (first | rfl | exact hrow (by omega)); rfl; rfl; rfl; rfl; rfl)
  refine rmI rfl rfl rfl rfl rfl ?_
  refine rmax rfl rfl rfl rfl rfl rfl ?_
  refine rnc (v := .ptr _ _ _) rfl rfl rfl rfl rfl rfl ?_
  refine rfa (off := 0) (s := 1) (r := false) rfl rfl rfl (Nat.succ_ne_zero _) rfl rfl rfl ?_
  (apply rst (u := .int _ _) rfl rfl rfl; (first | ((simp (disch := (first | omega | assumption)) only [↓appC, ↓updN, ↓updS, ↓app0, ↓hpS, ↓hpN]) <;> first | rfl | assumption) | assumption | rfl); (first | rfl | exact hrow (by omega)); rfl; rfl; rfl; rfl; (exact Nat.le_of_ble_eq_true rfl); rfl; rfl; rfl)
  refine rNil ?_
  refine qSeq ?_
  refine wSeq ?_
  refine wRegion ?_
  refine rmP rfl rfl rfl rfl rfl ?_
  refine rnc (v := .ptr _ _ _) rfl rfl rfl rfl rfl rfl ?_
  refine rfa (off := 2) (s := 1) (r := false) rfl rfl rfl (Nat.succ_ne_zero _) rfl rfl rfl ?_
  (apply rlc (v := .view _ _ _) rfl rfl; (first | ((simp (disch := (first | omega | assumption)) only [↓appC, ↓updN, ↓updS, ↓app0, ↓hpS, ↓hpN]) <;> first | rfl | assumption) | assumption | rfl); (first | rfl | exact hrow (by omega)); rfl; rfl; rfl; rfl; rfl)
  refine rll rfl rfl rfl rfl rfl rfl ?_
  refine rmI rfl rfl rfl rfl rfl ?_
  refine rNil ?_
  refine qSeq ?_
  refine wBlock ?_
  refine wLoop ?_
  refine loopGo (fun (a : Nat × Nat) => [.ptr id 0 0, .unk, .unk, .unk, .unk, .unk, .unk, .unk, .unk, .unk, .unk, .unk, .unk, .unk, .unk, .unk, .unk, .unk, .view lb 0 L.length, .int .i64 L.length, .int .i64 a.1]) (fun (a : Nat × Nat) => app [(id, some ⟨[[.int .i64 (max tm now), .int .i64 (nxL (max tm now) nx (L.take a.1)), .view lb 0 L.length, Ss]], 4, 35⟩), (lb, some ⟨mixR (rwP w (fun i => exP (max tm now) (L.getD i Lk0)) (exL (max tm now) nx L)) (rwV w L) L.length a.1, 5, 29⟩)] h) (fun (a : Nat × Nat) => a.2) (fun (a : Nat × Nat) => a.1 ≤ L.length ∧ n ≤ a.2 ∧ a.2 ≤ n + a.1 ∧ nx ≤ nxL (max tm now) nx (L.take a.1) ∧ nxL (max tm now) nx (L.take a.1) ≤ nx + (a.1 : Int)) (fun (a : Nat × Nat) => L.length - a.1) (0, n) ?_ ?_ ?_ ?_ ?_
  · exact ⟨Nat.zero_le _, Nat.le_refl _, Nat.le_refl _, by dsimp only; rw [List.take_zero]; exact Int.le_refl _, by dsimp only; rw [List.take_zero]; show nx ≤ _; omega⟩
  · (repeat first | exact LE.nil _ | refine LE.unk _ _ ?_ | refine LE.eq _ _ _ rfl ?_)
  · dsimp only
    refine lessApp (n := n) hz (fun jx hjx => ?_) (fun jx hl hn => ?_)
    · simp only [List.map_cons, List.map_nil, List.mem_cons, List.not_mem_nil, or_false] at hjx
      rcases hjx with e | e
      · rw [e]
        (simp (disch := (first | omega | assumption)) only [↓appC, ↓updN, ↓updS, ↓app0])
        rfl
      · rw [e]
        (simp (disch := (first | omega | assumption)) only [↓appC, ↓updN, ↓updS, ↓app0])
        rw [mixR_zero]; exact k1
    · simp only [List.map_cons, List.map_nil, List.mem_cons, List.not_mem_nil, or_false, not_or] at hn
      (try simp (disch := omega) only [↓appC, ↓updN, ↓updS, ↓app0])
  · exact Nat.le_refl _
  intro ⟨i, m⟩ hI ih
  dsimp only at hI ⊢
  have hrow : i < L.length → (mixR (rwP w (fun i => exP (max tm now) (L.getD i Lk0)) (exL (max tm now) nx L)) (rwV w L) L.length i)[0 + i]? = some ((L.getD i Lk0).V (.view (w i) 0 (L.getD i Lk0).ws.length)) := fun h => mixR_at h rfl
  have hnt := fun h : i < L.length => nxL_take (tm := max tm now) (nx := nx) h
  have hbd := fun h : i < L.length => exN_bd (tm := max tm now) (nx := nxL (max tm now) nx (L.take i)) (l := L.getD i Lk0)
  refine lStep ?_
  refine wSeq ?_
  refine wRegion ?_
  refine rlt rfl rfl rfl rfl rfl rfl ?_ ?_ <;> intro h2_0
  · refine rNil ?_
    refine qSeq ?_
    refine wSeq ?_
    refine wT rfl ?_
    refine wSkip ?_
    refine qSeq ?_
    refine wSeq ?_
    refine wBlock ?_
    refine wSeq ?_
    refine wRegion ?_
    refine rmI rfl rfl rfl rfl rfl ?_
    refine raI rfl rfl rfl rfl rfl ?_
    refine rNil ?_
    refine qSeq ?_
    refine wSeq ?_
    refine wRegion ?_
    refine rmP rfl rfl rfl rfl rfl ?_
    refine rnc (v := .ptr _ _ _) rfl rfl rfl rfl rfl rfl ?_
    refine rfa (off := 2) (s := 1) (r := false) rfl rfl rfl (Nat.succ_ne_zero _) rfl rfl rfl ?_
    (apply rlc (v := .view _ _ _) rfl rfl; (first | ((simp (disch := (first | omega | assumption)) only [↓appC, ↓updN, ↓updS, ↓app0, ↓hpS, ↓hpN]) <;> first | rfl | assumption) | assumption | rfl); (first | rfl | exact hrow (by omega)); rfl; rfl; rfl; rfl; rfl)
    refine rmI rfl rfl rfl rfl rfl ?_
    (apply rixv rfl rfl rfl rfl; (first | ((simp (disch := (first | omega | assumption)) only [↓appC, ↓updN, ↓updS, ↓app0, ↓hpS, ↓hpN]) <;> first | rfl | assumption) | assumption | rfl); rfl; (first | omega | assumption | (focus (simp; omega))); (first | omega | assumption | (focus (simp; omega))); rfl; rfl; rfl)
    refine raP rfl rfl rfl rfl rfl ?_
    refine rNil ?_
    refine qSeq ?_
    refine wSeq ?_
    refine wDraw [0, 1, 3, 7, 15, 31, 63, 127, 255, 511, 63, 1087, 3135, 7231, 16383, 32767] rfl (by decide +kernel) ?_
    refine dmP rfl rfl rfl rfl rfl ?_
    refine dnc (v := .ptr _ _ _) rfl rfl rfl rfl rfl rfl ?_
    refine dfa (off := 2) (s := 1) (r := false) rfl rfl rfl (Nat.succ_ne_zero _) rfl rfl rfl ?_
    (apply dlc (v := .int _ _) rfl rfl; (first | ((simp (disch := (first | omega | assumption)) only [↓appC, ↓updN, ↓updS, ↓app0, ↓hpS, ↓hpN]) <;> first | rfl | assumption) | assumption | rfl); (first | rfl | exact hrow (by omega)); rfl; rfl; rfl; rfl; rfl)
    refine dne rfl rfl rfl rfl rfl rfl ?_ ?_ <;> intro h5_4
    · refine dmB rfl rfl rfl rfl rfl ?_
      refine dmP rfl rfl rfl rfl rfl ?_
      refine dnc (v := .ptr _ _ _) rfl rfl rfl rfl rfl rfl ?_
      refine dfa (off := 3) (s := 1) (r := false) rfl rfl rfl (Nat.succ_ne_zero _) rfl rfl rfl ?_
      (apply dlc (v := .int _ _) rfl rfl; (first | ((simp (disch := (first | omega | assumption)) only [↓appC, ↓updN, ↓updS, ↓app0, ↓hpS, ↓hpN]) <;> first | rfl | assumption) | assumption | rfl); (first | rfl | exact hrow (by omega)); rfl; rfl; rfl; rfl; rfl)
      refine dmP rfl rfl rfl rfl rfl ?_
      refine dnc (v := .ptr _ _ _) rfl rfl rfl rfl rfl rfl ?_
      refine dfa (off := 0) (s := 1) (r := false) rfl rfl rfl (Nat.succ_ne_zero _) rfl rfl rfl ?_
      (apply dlc (v := .int _ _) rfl rfl; (first | ((simp (disch := (first | omega | assumption)) only [↓appC, ↓updN, ↓updS, ↓app0, ↓hpS, ↓hpN]) <;> first | rfl | assumption) | assumption | rfl); (first | rfl | exact hrow (by omega)); rfl; rfl; rfl; rfl; rfl)
      refine dle rfl rfl rfl rfl rfl rfl ?_ ?_ <;> intro h5_14
      · refine dpk (e := true) rfl rfl rfl rfl rfl rfl ?_
        refine dNilR 16 [0, 0, 1, 0, 0, 0, 1, 0, 0, 0, 0, 0, 1, 0, 0, 0] [] rfl rfl (by decide +kernel) trivial ?_
        refine qSeq ?_
        refine wT rfl ?_
        refine wRegion ?_
        refine rmP rfl rfl rfl rfl rfl ?_
        refine rmP rfl rfl rfl rfl rfl ?_
        refine rop (o96 (L.getD i Lk0) (max tm now) (nxL (max tm now) nx (L.take i)) (w i) (.view lb 0 L.length) Ss ⟨h5_4, h5_14⟩ (hwl i (by omega)) hM (by omega) (id := id) (lb := lb) (j := 0 + i) (R := mixR (rwP w (fun i => exP (max tm now) (L.getD i Lk0)) (exL (max tm now) nx L)) (rwV w L) L.length i) (by omega) (by omega) (Nat.lt_of_lt_of_le (hwn i (by omega)) (by omega)) hne (hlw i (by omega)) (hiw i (by omega)) (by (first | ((simp (disch := (first | omega | assumption)) only [↓appC, ↓updN, ↓updS, ↓app0, ↓hpS, ↓hpN]) <;> first | rfl | assumption) | assumption | rfl)) (by rw [mixR_len]; omega) (by (first | ((simp (disch := (first | omega | assumption)) only [↓appC, ↓updN, ↓updS, ↓app0, ↓hpS, ↓hpN]) <;> first | rfl | assumption) | assumption | rfl)) (hrow (by omega)) (by have e1 := hlw i (by omega); have e2 := hiw i (by omega); (simp (disch := (first | omega | assumption)) only [↓appC, ↓updN, ↓app0]); exact kf i (by omega))) rfl rfl rfl rfl rfl rfl ?_
        refine rNil ?_
        refine qBlock ?_
        refine qSeq ?_
        refine wRegion ?_
        refine raddF rfl rfl rfl ?_ ?_ rfl rfl rfl ?_
        · (first | omega | assumption | (focus (simp; omega)))
        · (first | omega | assumption | (focus (simp; omega)))
        refine rmI rfl rfl rfl rfl rfl ?_
        refine rNil ?_
        refine qLoop ?_
        first
        | (have hg : gone (max tm now) (L.getD i Lk0) := ⟨h5_4, h5_14⟩
           refine wlH (ih (i + 1, m + 1) ⟨by dsimp only; omega, by dsimp only; omega, by dsimp only; omega, by dsimp only; have := hnt (by omega); have := hbd (by omega); omega, by dsimp only; have := hnt (by omega); have := hbd (by omega); omega⟩ (by dsimp only; omega)) (by (repeat first | exact LE.nil _ | refine LE.unk _ _ ?_ | refine LE.eq _ _ _ rfl ?_)) (by
             dsimp only
             refine lessApp (n := n) hz (fun jx hjx => ?_) (fun jx hl hn => ?_)
             · simp only [List.map_cons, List.map_nil, List.mem_cons, List.not_mem_nil, or_false] at hjx
               rcases hjx with e | e
               · rw [e]
                 (simp (disch := (first | omega | assumption)) only [↓appC, ↓updN, ↓updS, ↓app0])
                 rw [hnt (by omega)]; first | done | rfl
               · rw [e]
                 (simp (disch := (first | omega | assumption)) only [↓appC, ↓updN, ↓updS, ↓app0])
                 refine congrArg (fun z => some (Blk.mk z 5 29)) (mixR_set (by omega) ?_); unfold rwP; rw [exL_get (by omega)]
             · simp only [List.map_cons, List.map_nil, List.mem_cons, List.not_mem_nil, or_false, not_or] at hn
               (try simp (disch := omega) only [↓appC, ↓updN, ↓updS, ↓app0])) (Nat.le_refl _))
        | (have hg : ¬ gone (max tm now) (L.getD i Lk0) := (fun e => by first | exact absurd e.1 h5_4 | exact absurd e.2 h5_14)
           have hn0 : exN (max tm now) (nxL (max tm now) nx (L.take i)) (L.getD i Lk0) = nxL (max tm now) nx (L.take i) := if_neg (fun e => hg e.1)
           refine wlH (ih (i + 1, m) ⟨by dsimp only; omega, by dsimp only; omega, by dsimp only; omega, by dsimp only; have := hnt (by omega); omega, by dsimp only; have := hnt (by omega); omega⟩ (by dsimp only; omega)) (by (repeat first | exact LE.nil _ | refine LE.unk _ _ ?_ | refine LE.eq _ _ _ rfl ?_)) (by
             dsimp only
             refine lessApp (n := n) hz (fun jx hjx => ?_) (fun jx hl hn => ?_)
             · simp only [List.map_cons, List.map_nil, List.mem_cons, List.not_mem_nil, or_false] at hjx
               rcases hjx with e | e
               · rw [e]
                 (simp (disch := (first | omega | assumption)) only [↓appC, ↓updN, ↓updS, ↓app0])
                 rw [hnt (by omega), hn0]; first | done | rfl
               · rw [e]
                 (simp (disch := (first | omega | assumption)) only [↓appC, ↓updN, ↓updS, ↓app0])
                 refine congrArg (fun z => some (Blk.mk z 5 29)) (mixR_same fun h => ?_); unfold rwP rwV; rw [exL_get h]; dsimp only; unfold exF exP; rw [if_neg hg, if_neg hg]; rfl
             · simp only [List.map_cons, List.map_nil, List.mem_cons, List.not_mem_nil, or_false, not_or] at hn
               (try simp (disch := omega) only [↓appC, ↓updN, ↓updS, ↓app0])) (Nat.le_refl _))
      · refine dpk (e := false) rfl rfl rfl rfl rfl rfl ?_
        refine dNilR 16 [0, 0, 1, 0, 0, 0, 1, 0, 0, 0, 0, 0, 1, 0, 0, 0] [] rfl rfl (by decide +kernel) trivial ?_
        refine qSeq ?_
        refine wF rfl ?_
        refine wSkip ?_
        refine qBlock ?_
        refine qSeq ?_
        refine wRegion ?_
        refine raddF rfl rfl rfl ?_ ?_ rfl rfl rfl ?_
        · (first | omega | assumption | (focus (simp; omega)))
        · (first | omega | assumption | (focus (simp; omega)))
        refine rmI rfl rfl rfl rfl rfl ?_
        refine rNil ?_
        refine qLoop ?_
        first
        | (have hg : gone (max tm now) (L.getD i Lk0) := ⟨h5_4, h5_14⟩
           refine wlH (ih (i + 1, m + 1) ⟨by dsimp only; omega, by dsimp only; omega, by dsimp only; omega, by dsimp only; have := hnt (by omega); have := hbd (by omega); omega, by dsimp only; have := hnt (by omega); have := hbd (by omega); omega⟩ (by dsimp only; omega)) (by (repeat first | exact LE.nil _ | refine LE.unk _ _ ?_ | refine LE.eq _ _ _ rfl ?_)) (by
             dsimp only
             refine lessApp (n := n) hz (fun jx hjx => ?_) (fun jx hl hn => ?_)
             · simp only [List.map_cons, List.map_nil, List.mem_cons, List.not_mem_nil, or_false] at hjx
               rcases hjx with e | e
               · rw [e]
                 (simp (disch := (first | omega | assumption)) only [↓appC, ↓updN, ↓updS, ↓app0])
                 rw [hnt (by omega)]; first | done | rfl
               · rw [e]
                 (simp (disch := (first | omega | assumption)) only [↓appC, ↓updN, ↓updS, ↓app0])
                 refine congrArg (fun z => some (Blk.mk z 5 29)) (mixR_set (by omega) ?_); unfold rwP; rw [exL_get (by omega)]
             · simp only [List.map_cons, List.map_nil, List.mem_cons, List.not_mem_nil, or_false, not_or] at hn
               (try simp (disch := omega) only [↓appC, ↓updN, ↓updS, ↓app0])) (Nat.le_refl _))
        | (have hg : ¬ gone (max tm now) (L.getD i Lk0) := (fun e => by first | exact absurd e.1 h5_4 | exact absurd e.2 h5_14)
           have hn0 : exN (max tm now) (nxL (max tm now) nx (L.take i)) (L.getD i Lk0) = nxL (max tm now) nx (L.take i) := if_neg (fun e => hg e.1)
           refine wlH (ih (i + 1, m) ⟨by dsimp only; omega, by dsimp only; omega, by dsimp only; omega, by dsimp only; have := hnt (by omega); omega, by dsimp only; have := hnt (by omega); omega⟩ (by dsimp only; omega)) (by (repeat first | exact LE.nil _ | refine LE.unk _ _ ?_ | refine LE.eq _ _ _ rfl ?_)) (by
             dsimp only
             refine lessApp (n := n) hz (fun jx hjx => ?_) (fun jx hl hn => ?_)
             · simp only [List.map_cons, List.map_nil, List.mem_cons, List.not_mem_nil, or_false] at hjx
               rcases hjx with e | e
               · rw [e]
                 (simp (disch := (first | omega | assumption)) only [↓appC, ↓updN, ↓updS, ↓app0])
                 rw [hnt (by omega), hn0]; first | done | rfl
               · rw [e]
                 (simp (disch := (first | omega | assumption)) only [↓appC, ↓updN, ↓updS, ↓app0])
                 refine congrArg (fun z => some (Blk.mk z 5 29)) (mixR_same fun h => ?_); unfold rwP rwV; rw [exL_get h]; dsimp only; unfold exF exP; rw [if_neg hg, if_neg hg]; rfl
             · simp only [List.map_cons, List.map_nil, List.mem_cons, List.not_mem_nil, or_false, not_or] at hn
               (try simp (disch := omega) only [↓appC, ↓updN, ↓updS, ↓app0])) (Nat.le_refl _))
    · refine dmB rfl rfl rfl rfl rfl ?_
      refine dSkip rfl rfl rfl ?_
      refine dSkip rfl rfl rfl ?_
      refine dSkip rfl rfl rfl ?_
      refine dSkip rfl rfl rfl ?_
      refine dSkip rfl rfl rfl ?_
      refine dSkip rfl rfl rfl ?_
      refine dSkip rfl rfl rfl ?_
      refine dSkip rfl rfl rfl ?_
      refine dSkip rfl rfl rfl ?_
      refine dpk (e := false) rfl rfl rfl rfl rfl rfl ?_
      refine dNilR 16 [0, 0, 0, 0, 0, 0, 0, 0, 0, 0, 0, 0, 1, 0, 0, 0] [] rfl rfl (by decide +kernel) trivial ?_
      refine qSeq ?_
      refine wF rfl ?_
      refine wSkip ?_
      refine qBlock ?_
      refine qSeq ?_
      refine wRegion ?_
      refine raddF rfl rfl rfl ?_ ?_ rfl rfl rfl ?_
      · (first | omega | assumption | (focus (simp; omega)))
      · (first | omega | assumption | (focus (simp; omega)))
      refine rmI rfl rfl rfl rfl rfl ?_
      refine rNil ?_
      refine qLoop ?_
      first
      | (have hg : gone (max tm now) (L.getD i Lk0) := ⟨h5_4, h5_14⟩
         refine wlH (ih (i + 1, m + 1) ⟨by dsimp only; omega, by dsimp only; omega, by dsimp only; omega, by dsimp only; have := hnt (by omega); have := hbd (by omega); omega, by dsimp only; have := hnt (by omega); have := hbd (by omega); omega⟩ (by dsimp only; omega)) (by (repeat first | exact LE.nil _ | refine LE.unk _ _ ?_ | refine LE.eq _ _ _ rfl ?_)) (by
           dsimp only
           refine lessApp (n := n) hz (fun jx hjx => ?_) (fun jx hl hn => ?_)
           · simp only [List.map_cons, List.map_nil, List.mem_cons, List.not_mem_nil, or_false] at hjx
             rcases hjx with e | e
             · rw [e]
               (simp (disch := (first | omega | assumption)) only [↓appC, ↓updN, ↓updS, ↓app0])
               rw [hnt (by omega)]; first | done | rfl
             · rw [e]
               (simp (disch := (first | omega | assumption)) only [↓appC, ↓updN, ↓updS, ↓app0])
               refine congrArg (fun z => some (Blk.mk z 5 29)) (mixR_set (by omega) ?_); unfold rwP; rw [exL_get (by omega)]
           · simp only [List.map_cons, List.map_nil, List.mem_cons, List.not_mem_nil, or_false, not_or] at hn
             (try simp (disch := omega) only [↓appC, ↓updN, ↓updS, ↓app0])) (Nat.le_refl _))
      | (have hg : ¬ gone (max tm now) (L.getD i Lk0) := (fun e => by first | exact absurd e.1 h5_4 | exact absurd e.2 h5_14)
         have hn0 : exN (max tm now) (nxL (max tm now) nx (L.take i)) (L.getD i Lk0) = nxL (max tm now) nx (L.take i) := if_neg (fun e => hg e.1)
         refine wlH (ih (i + 1, m) ⟨by dsimp only; omega, by dsimp only; omega, by dsimp only; omega, by dsimp only; have := hnt (by omega); omega, by dsimp only; have := hnt (by omega); omega⟩ (by dsimp only; omega)) (by (repeat first | exact LE.nil _ | refine LE.unk _ _ ?_ | refine LE.eq _ _ _ rfl ?_)) (by
           dsimp only
           refine lessApp (n := n) hz (fun jx hjx => ?_) (fun jx hl hn => ?_)
           · simp only [List.map_cons, List.map_nil, List.mem_cons, List.not_mem_nil, or_false] at hjx
             rcases hjx with e | e
             · rw [e]
               (simp (disch := (first | omega | assumption)) only [↓appC, ↓updN, ↓updS, ↓app0])
               rw [hnt (by omega), hn0]; first | done | rfl
             · rw [e]
               (simp (disch := (first | omega | assumption)) only [↓appC, ↓updN, ↓updS, ↓app0])
               refine congrArg (fun z => some (Blk.mk z 5 29)) (mixR_same fun h => ?_); unfold rwP rwV; rw [exL_get h]; dsimp only; unfold exF exP; rw [if_neg hg, if_neg hg]; rfl
           · simp only [List.map_cons, List.map_nil, List.mem_cons, List.not_mem_nil, or_false, not_or] at hn
             (try simp (disch := omega) only [↓appC, ↓updN, ↓updS, ↓app0])) (Nat.le_refl _))
  · refine rNil ?_
    refine qSeq ?_
    refine wSeq ?_
    refine wF rfl ?_
    refine wExit ?_
    refine qSeqX ?_
    refine qLoopX ?_
    refine qBlockX ?_
    obtain rfl : i = L.length := by omega
    refine finO rfl rfl ?_ (by omega)
    rw [mixR_full, List.take_length, ← lkP_ex]
    exact fun _ _ _ e => e
end Go.Proofs.Ytknnniaoboaghaa
