import Derived.Test.YtknnniaoboaghaaA10
namespace Go.Proofs.Ytknnniaoboaghaa
open Go.V
set_option linter.unusedVariables false
set_option linter.unusedSimpArgs false
set_option maxRecDepth 20000
set_option maxHeartbeats 4000000

/-! LockAt, on both sides. -/
/-- What LockAt answers. -/
noncomputable def lAt (t : Tb) (s : ByteArray) : Lk × Int := if s.size > 65536 then (Lk0, 2) else if ¬ t.OK then (Lk0, 1) else if ¬ hit s t.lk then (Lk0, 5) else (t.lk.getD (pos s t.lk) Lk0, 0)
theorem lAt_long {t : Tb} {s : ByteArray} (h : s.size > 65536) : lAt t s = (Lk0, 2) := if_pos h
theorem lAt_bad {t : Tb} {s : ByteArray} (h : ¬ s.size > 65536) (h1 : ¬ t.OK) : lAt t s = (Lk0, 1) := by unfold lAt; rw [if_neg h, if_pos h1]
theorem lAt_none {t : Tb} {s : ByteArray} (h : ¬ s.size > 65536) (h1 : t.OK) (h2 : ¬ hit s t.lk) : lAt t s = (Lk0, 5) := by unfold lAt; rw [if_neg h, if_neg (fun e => e h1), if_pos h2]
theorem lAt_hit {t : Tb} {s : ByteArray} (h : ¬ s.size > 65536) (h1 : t.OK) (h2 : hit s t.lk) : lAt t s = (t.lk.getD (pos s t.lk) Lk0, 0) := by unfold lAt; rw [if_neg h, if_neg (fun e => e h1), if_neg (fun e => e h2)]
theorem OKw {t : Tb} (h : t.OK) {i : Nat} (hi : i < t.lk.length) : (t.lk.getD i Lk0).ws.length ≤ 4 := (h.2.2.2.2.1 i hi).1.2.2.2.2.1
theorem fix_hit {s : ByteArray} {L : List Lk} (h : hit s L) : fix s L = (pos s L : Int) := if_pos h
theorem fix_no {s : ByteArray} {L : List Lk} (h : ¬ hit s L) : fix s L = -1 := if_neg h
theorem flatWs (L : List Wt) {k : Nat} : ∀ id b, app [(k, some (Blk.mk (L.map wtV) 2 123))] (fun _ => none) id = some b → ∀ e ∈ b.es, ∀ x ∈ e, x.flat = true := by
  intro id b hb e he x hx
  have : b = Blk.mk (L.map wtV) 2 123 := by
    simp only [app] at hb
    by_cases h : id = k
    · subst h; rw [upd_same] at hb; exact (Option.some.inj hb).symm
    · rw [upd_ne _ _ h] at hb; cases hb
  subst this
  obtain ⟨s, _, rfl⟩ := List.mem_map.1 he
  simp only [wtV, List.mem_cons, List.not_mem_nil, or_false] at hx
  rcases hx with rfl | rfl <;> rfl
theorem s10 (t : Tb) (s : ByteArray) : Pure En 10 [.agg (t.T true true true), .one (.str s)] [.agg ((lAt t s).1.T false), .one (.int .i64 (lAt t s).2)] := by
  refine Pure.of_wp Try.func10 rfl (Nat.le_of_ble_eq_true rfl) ?_
  refine wSeq ?_
  refine wRegion ?_
  refine rbx (u := .agg [.int _ _, .int _ _, _, _]) rfl rfl rfl rfl rfl rfl rfl ?_
  refine ral rfl rfl rfl rfl rfl rfl ?_
  refine raI rfl rfl rfl rfl rfl ?_
  refine rNil ?_
  refine qSeq ?_
  refine wSeq ?_
  refine wSeq ?_
  refine wRegion ?_
  refine rmS rfl rfl rfl rfl rfl ?_
  refine rls rfl rfl rfl rfl rfl rfl ?_
  refine rgt rfl rfl rfl rfl rfl rfl ?_ ?_ <;> intro h1_2
  · refine rNil ?_
    refine qSeq ?_
    refine wT rfl ?_
    refine wSeq ?_
    refine wRegion ?_
    refine rbd (cs := [.str _, .int _ _, .int _ _, .int _ _, _]) rfl rfl rfl rfl rfl ?_
    (apply rst (u := .agg [.str _, .int _ _, .int _ _, .int _ _, _]) rfl rfl rfl; (first | ((simp (disch := (first | omega | assumption)) only [↓appC, ↓updN, ↓updS, ↓app0, ↓hpS, ↓hpN]) <;> first | rfl | assumption) | ((simp (disch := (first | omega | (intro _ _; dsimp only; omega))) only [↓appC, ↓updN, ↓updS, ↓app0, ↓famAO]) <;> first | rfl | assumption) | assumption | rfl); rfl; rfl; rfl; rfl; rfl; (exact Nat.le_of_ble_eq_true rfl); rfl; rfl; rfl)
    refine raI rfl rfl rfl rfl rfl ?_
    refine rNil ?_
    refine qSeq ?_
    refine wRet ?_
    refine qSeqR ?_
    first | (rw [lAt_long (s := s) (by omega)]; exact finS [] (resL_cons (resV_row rfl (by (first | ((simp (disch := (first | omega | assumption)) only [↓appC, ↓updN, ↓updS, ↓app0, ↓hpS, ↓hpN]) <;> first | rfl | assumption) | ((simp (disch := (first | omega | (intro _ _; dsimp only; omega))) only [↓appC, ↓updN, ↓updS, ↓app0, ↓famAO]) <;> first | rfl | assumption) | assumption | rfl)) rfl rfl (Nat.le_of_ble_eq_true rfl) rfl) (resL_cons rfl resL_nil)) (SnapL.cons _ _ _ _ (SnapC.agg (.cons _ _ _ _ (.str _) (.cons _ _ _ _ (.int _ _) (.cons _ _ _ _ (.int _ _) (.cons _ _ _ _ (.int _ _) (.cons _ _ _ _ .nslW .nil)))))) (SnapL.cons _ _ _ _ (.one _ _ (.int _ _)) SnapL.nil)))
  · refine rNil ?_
    refine qSeq ?_
    refine wF rfl ?_
    refine wSkip ?_
    refine qSeq ?_
    refine wSeq ?_
    refine wSeq ?_
    refine wRegion ?_
    (apply rlr (vs := [.int _ _, .int _ _, _, _]) rfl rfl; (first | ((simp (disch := (first | omega | assumption)) only [↓appC, ↓updN, ↓updS, ↓app0, ↓hpS, ↓hpN]) <;> first | rfl | assumption) | ((simp (disch := (first | omega | (intro _ _; dsimp only; omega))) only [↓appC, ↓updN, ↓updS, ↓app0, ↓famAO]) <;> first | rfl | assumption) | assumption | rfl); rfl; rfl; (exact Nat.le_of_ble_eq_true rfl); rfl; rfl; rfl; rfl)
    refine rclP (s42 t true true true) rfl rfl rfl rfl rfl rfl ?_ ?_ <;> intro h3_1
    · refine rnot (c := true) rfl rfl rfl rfl rfl ?_
      refine rNil ?_
      refine qSeq ?_
      refine wF rfl ?_
      refine wSkip ?_
      refine qSeq ?_
      refine wSeq ?_
      refine wRegion ?_
      (apply rlr (vs := [.int _ _, .int _ _, _, _]) rfl rfl; (first | ((simp (disch := (first | omega | assumption)) only [↓appC, ↓updN, ↓updS, ↓app0, ↓hpS, ↓hpN]) <;> first | rfl | assumption) | ((simp (disch := (first | omega | (intro _ _; dsimp only; omega))) only [↓appC, ↓updN, ↓updS, ↓app0, ↓famAO]) <;> first | rfl | assumption) | assumption | rfl); rfl; rfl; (exact Nat.le_of_ble_eq_true rfl); rfl; rfl; rfl; rfl)
      refine rmS rfl rfl rfl rfl rfl ?_
      refine rcl (s43 t true true true s h3_1.srt (by have := h3_1.2.2.1; omega)) rfl rfl rfl rfl rfl rfl ?_
      refine raI rfl rfl rfl rfl rfl ?_
      refine rNil ?_
      refine qSeq ?_
      refine wSeq ?_
      refine wSeq ?_
      refine wRegion ?_
      refine rmI rfl rfl rfl rfl rfl ?_
      refine rlt rfl rfl rfl rfl rfl rfl ?_ ?_ <;> intro h6_1
      · refine rNil ?_
        refine qSeq ?_
        refine wT rfl ?_
        refine wSeq ?_
        refine wRegion ?_
        refine rbd (cs := [.str _, .int _ _, .int _ _, .int _ _, _]) rfl rfl rfl rfl rfl ?_
        (apply rst (u := .agg [.str _, .int _ _, .int _ _, .int _ _, _]) rfl rfl rfl; (first | ((simp (disch := (first | omega | assumption)) only [↓appC, ↓updN, ↓updS, ↓app0, ↓hpS, ↓hpN]) <;> first | rfl | assumption) | ((simp (disch := (first | omega | (intro _ _; dsimp only; omega))) only [↓appC, ↓updN, ↓updS, ↓app0, ↓famAO]) <;> first | rfl | assumption) | assumption | rfl); rfl; rfl; rfl; rfl; rfl; (exact Nat.le_of_ble_eq_true rfl); rfl; rfl; rfl)
        refine raI rfl rfl rfl rfl rfl ?_
        refine rNil ?_
        refine qSeq ?_
        refine wRet ?_
        refine qSeqR ?_
        have hn : ¬ hit s t.lk := fun e => by rw [fix_hit e] at h6_1; omega
        rw [lAt_none (s := s) (by omega) h3_1 hn]; exact finS [] (resL_cons (resV_row rfl (by (first | ((simp (disch := (first | omega | assumption)) only [↓appC, ↓updN, ↓updS, ↓app0, ↓hpS, ↓hpN]) <;> first | rfl | assumption) | ((simp (disch := (first | omega | (intro _ _; dsimp only; omega))) only [↓appC, ↓updN, ↓updS, ↓app0, ↓famAO]) <;> first | rfl | assumption) | assumption | rfl)) rfl rfl (Nat.le_of_ble_eq_true rfl) rfl) (resL_cons rfl resL_nil)) (SnapL.cons _ _ _ _ (SnapC.agg (.cons _ _ _ _ (.str _) (.cons _ _ _ _ (.int _ _) (.cons _ _ _ _ (.int _ _) (.cons _ _ _ _ (.int _ _) (.cons _ _ _ _ .nslW .nil)))))) (SnapL.cons _ _ _ _ (.one _ _ (.int _ _)) SnapL.nil))
      · refine rNil ?_
        refine qSeq ?_
        refine wF rfl ?_
        refine wSkip ?_
        refine qSeq ?_
        refine wSeq ?_
        refine wRegion ?_
        (apply rlr (vs := [.int _ _, .int _ _, _, _]) rfl rfl; (first | ((simp (disch := (first | omega | assumption)) only [↓appC, ↓updN, ↓updS, ↓app0, ↓hpS, ↓hpN]) <;> first | rfl | assumption) | ((simp (disch := (first | omega | (intro _ _; dsimp only; omega))) only [↓appC, ↓updN, ↓updS, ↓app0, ↓famAO]) <;> first | rfl | assumption) | assumption | rfl); rfl; rfl; (exact Nat.le_of_ble_eq_true rfl); rfl; rfl; rfl; rfl)
        refine rcl (s44 t (by have := h3_1.2.2.1; omega) (fun i hi => by have := OKw h3_1 hi; omega) (by have := h3_1.2.2.2.1; omega)) rfl rfl rfl rfl rfl rfl ?_
        refine rfd  rfl rfl rfl rfl (Nat.le_of_ble_eq_true rfl) rfl rfl rfl ?_
        (have hh : hit s t.lk := Classical.byContradiction (fun e => h6_1 (by rw [fix_no e]; decide)); have hp := hh.1; have hf := fix_hit hh; have hl : (t.lk.map (Lk.T true)).length = t.lk.length := List.length_map ..; refine rmI rfl rfl rfl rfl rfl ?_)
        (apply rixl rfl rfl rfl rfl; (first | omega | assumption | (focus (simp; omega))); (first | rfl | assumption | (rw [hf, Int.toNat_natCast]; exact getMap (Lk.T true) Lk0 hp)); rfl; rfl; rfl; rfl)
        refine rlir (vs := [.str _, .int _ _, .int _ _, .int _ _, _]) rfl rfl rfl (Nat.le_of_ble_eq_true rfl) rfl rfl rfl rfl ?_
        (apply rst (u := .agg [.str _, .int _ _, .int _ _, .int _ _, _]) rfl rfl rfl; (first | ((simp (disch := (first | omega | assumption)) only [↓appC, ↓updN, ↓updS, ↓app0, ↓hpS, ↓hpN]) <;> first | rfl | assumption) | ((simp (disch := (first | omega | (intro _ _; dsimp only; omega))) only [↓appC, ↓updN, ↓updS, ↓app0, ↓famAO]) <;> first | rfl | assumption) | assumption | rfl); rfl; rfl; rfl; rfl; rfl; (exact Nat.le_of_ble_eq_true rfl); rfl; rfl; rfl)
        refine raI rfl rfl rfl rfl rfl ?_
        refine rNil ?_
        refine qSeq ?_
        refine wRet ?_
        rw [lAt_hit (s := s) (by omega) h3_1 hh]; exact finS [] (resL_cons (resV_row rfl (by (first | ((simp (disch := (first | omega | assumption)) only [↓appC, ↓updN, ↓updS, ↓app0, ↓hpS, ↓hpN]) <;> first | rfl | assumption) | ((simp (disch := (first | omega | (intro _ _; dsimp only; omega))) only [↓appC, ↓updN, ↓updS, ↓app0, ↓famAO]) <;> first | rfl | assumption) | assumption | rfl)) rfl rfl (Nat.le_of_ble_eq_true rfl) rfl) (resL_cons rfl resL_nil)) (SnapL.cons _ _ _ _ (SnapC.agg (.cons _ _ _ _ (.str _) (.cons _ _ _ _ (.int _ _) (.cons _ _ _ _ (.int _ _) (.cons _ _ _ _ (.int _ _) (.cons _ _ _ _ (.weak _ _ (.sl _ _ _ (fun _ => .inl rfl))) .nil)))))) (SnapL.cons _ _ _ _ (.one _ _ (.int _ _)) SnapL.nil))
    · refine rnot (c := false) rfl rfl rfl rfl rfl ?_
      refine rNil ?_
      refine qSeq ?_
      refine wT rfl ?_
      refine wSeq ?_
      refine wRegion ?_
      refine rbd (cs := [.str _, .int _ _, .int _ _, .int _ _, _]) rfl rfl rfl rfl rfl ?_
      (apply rst (u := .agg [.str _, .int _ _, .int _ _, .int _ _, _]) rfl rfl rfl; (first | ((simp (disch := (first | omega | assumption)) only [↓appC, ↓updN, ↓updS, ↓app0, ↓hpS, ↓hpN]) <;> first | rfl | assumption) | ((simp (disch := (first | omega | (intro _ _; dsimp only; omega))) only [↓appC, ↓updN, ↓updS, ↓app0, ↓famAO]) <;> first | rfl | assumption) | assumption | rfl); rfl; rfl; rfl; rfl; rfl; (exact Nat.le_of_ble_eq_true rfl); rfl; rfl; rfl)
      refine raI rfl rfl rfl rfl rfl ?_
      refine rNil ?_
      refine qSeq ?_
      refine wRet ?_
      refine qSeqR ?_
      first | (rw [lAt_bad (s := s) (by omega) h3_1]; exact finS [] (resL_cons (resV_row rfl (by (first | ((simp (disch := (first | omega | assumption)) only [↓appC, ↓updN, ↓updS, ↓app0, ↓hpS, ↓hpN]) <;> first | rfl | assumption) | ((simp (disch := (first | omega | (intro _ _; dsimp only; omega))) only [↓appC, ↓updN, ↓updS, ↓app0, ↓famAO]) <;> first | rfl | assumption) | assumption | rfl)) rfl rfl (Nat.le_of_ble_eq_true rfl) rfl) (resL_cons rfl resL_nil)) (SnapL.cons _ _ _ _ (SnapC.agg (.cons _ _ _ _ (.str _) (.cons _ _ _ _ (.int _ _) (.cons _ _ _ _ (.int _ _) (.cons _ _ _ _ (.int _ _) (.cons _ _ _ _ .nslW .nil)))))) (SnapL.cons _ _ _ _ (.one _ _ (.int _ _)) SnapL.nil)))
theorem o48h (tm nx : Int) (n1 b : Bool) (L : List Lk) (Ss : V) (s : ByteArray) (hs : Srt L) (hL : L.length ≤ 1048576) (hh : hit s L) {id : Nat} {h : Heap} {n : Nat} (hid : id < n) (k : h id = some ⟨[[.int .i64 tm, .int .i64 nx, .sl false n1 (L.map (Lk.T b)), Ss]], 4, 35⟩) :
    V.Open En 48 [.ptr id 0 0, .str s] h n (.tup [.int .i64 (pos s L), .bool true]) [] (n + L.length + 1) := by
  have := o48 tm nx n1 b L Ss s hs hL hid k
  rwa [decide_eq_true hh] at this
theorem o48m (tm nx : Int) (n1 b : Bool) (L : List Lk) (Ss : V) (s : ByteArray) (hs : Srt L) (hL : L.length ≤ 1048576) (hh : ¬ hit s L) {id : Nat} {h : Heap} {n : Nat} (hid : id < n) (k : h id = some ⟨[[.int .i64 tm, .int .i64 nx, .sl false n1 (L.map (Lk.T b)), Ss]], 4, 35⟩) :
    V.Open En 48 [.ptr id 0 0, .str s] h n (.tup [.int .i64 (pos s L), .bool false]) [] (n + L.length + 1) := by
  have := o48 tm nx n1 b L Ss s hs hL hid k
  rwa [decide_eq_false hh] at this
theorem noneW {n : Nat} (id : Nat) (b : Blk) : ¬ app [(n, none)] (fun _ => none) id = some b := by
  simp only [app]
  by_cases h : id = n
  · subst h; rw [upd_same]; nofun
  · rw [upd_ne _ _ h]; nofun
theorem o12n (t : Tb) (s : ByteArray) (hn : ¬ s.size > 65536 → t.OK → ¬ hit s t.lk) {n : Nat} : V.Open En 12 ([A.agg (t.T true true true), A.one (.str s)].map (A.toV false)) (fun _ => none) n (.tup [.agg (Lk0.V .nsl), .int .i64 (lAt t s).2]) [(n, none)] (n + 5 + t.lk.length) := by
  refine V.Open.of_wp Try.func12 rfl (Nat.le_of_ble_eq_true rfl) ?_
  refine wSeq ?_
  refine wRegion ?_
  (refine rbx (u := .agg [.int .i64 t.tm, .int .i64 t.nx, .sl false true (t.lk.map (Lk.T true)), .sl false true (t.sn.map Sn.T)]) rfl rfl rfl rfl rfl rfl rfl ?_)
  refine ral rfl rfl rfl rfl rfl rfl ?_
  refine raI rfl rfl rfl rfl rfl ?_
  refine rNil ?_
  refine qSeq ?_
  refine wSeq ?_
  refine wBlock ?_
  refine wSeq ?_
  refine wRegion ?_
  refine rmS rfl rfl rfl rfl rfl ?_
  refine rbs (es := [[.str _]]) rfl rfl rfl rfl (Nat.succ_ne_zero _) (Nat.le_of_ble_eq_true rfl) rfl rfl rfl rfl rfl ?_
  apply rclSP [n + 2] (s47 s) rfl rfl rfl
  · exact SnapL.cons _ _ _ _ (.one _ _ (snapView (b := ⟨[[.str s]], 1, 9⟩) [[.str s]] (List.mem_singleton.2 rfl) (by (first | ((simp (disch := (first | omega | assumption)) only [↓appC, ↓updN, ↓updS, ↓app0, ↓hpS, ↓hpN]) <;> first | rfl | assumption) | ((simp (disch := (first | omega | (intro _ _; dsimp only; omega))) only [↓appC, ↓updN, ↓updS, ↓app0, ↓famAO]) <;> first | rfl | assumption) | assumption | rfl)) rfl rfl)) SnapL.nil
  · rfl
  · rfl
  · rfl
  all_goals intro h1_2
  · refine raB rfl rfl rfl rfl rfl ?_
    refine rNil ?_
    refine qSeq ?_
    refine wT rfl ?_
    refine wSeq ?_
    refine wRegion ?_
    refine rbd (cs := [.str _, .int _ _, .int _ _, .int _ _, _]) rfl rfl rfl rfl rfl ?_
    (apply rst (u := .agg [.str _, .int _ _, .int _ _, .int _ _, _]) rfl rfl rfl; (first | ((simp (disch := (first | omega | assumption)) only [↓appC, ↓updN, ↓updS, ↓app0, ↓hpS, ↓hpN]) <;> first | rfl | assumption) | ((simp (disch := (first | omega | (intro _ _; dsimp only; omega))) only [↓appC, ↓updN, ↓updS, ↓app0, ↓famAO]) <;> first | rfl | assumption) | assumption | rfl); rfl; rfl; rfl; rfl; rfl; (exact Nat.le_of_ble_eq_true rfl); rfl; rfl; rfl)
    refine raI rfl rfl rfl rfl rfl ?_
    refine rNil ?_
    refine qSeq ?_
    refine wRet ?_
    refine qBlockR ?_
    refine qSeqR ?_
    rw [lAt_long h1_2]; exact finO (resL_cons (resV_row rfl (by (first | ((simp (disch := (first | omega | assumption)) only [↓appC, ↓updN, ↓updS, ↓app0, ↓hpS, ↓hpN]) <;> first | rfl | assumption) | ((simp (disch := (first | omega | (intro _ _; dsimp only; omega))) only [↓appC, ↓updN, ↓updS, ↓app0, ↓famAO]) <;> first | rfl | assumption) | assumption | rfl)) rfl rfl (Nat.le_of_ble_eq_true rfl) rfl) (resL_cons rfl resL_nil)) rfl (fun _ id b e => absurd e (noneW id b)) (by omega)
  · refine raB rfl rfl rfl rfl rfl ?_
    refine rNil ?_
    refine qSeq ?_
    refine wF rfl ?_
    refine wSeq ?_
    refine wRegion ?_
    (apply rlr (vs := [.int _ _, .int _ _, _, _]) rfl rfl; (first | ((simp (disch := (first | omega | assumption)) only [↓appC, ↓updN, ↓updS, ↓app0, ↓hpS, ↓hpN]) <;> first | rfl | assumption) | ((simp (disch := (first | omega | (intro _ _; dsimp only; omega))) only [↓appC, ↓updN, ↓updS, ↓app0, ↓famAO]) <;> first | rfl | assumption) | assumption | rfl); rfl; rfl; (exact Nat.le_of_ble_eq_true rfl); rfl; rfl; rfl; rfl)
    refine rclP (p23 t true true true) rfl rfl rfl rfl rfl rfl ?_ ?_ <;> intro h3_1
    · refine rnot (c := true) rfl rfl rfl rfl rfl ?_
      refine raB rfl rfl rfl rfl rfl ?_
      refine rNil ?_
      refine qSeq ?_
      refine wF rfl ?_
      refine wSkip ?_
      refine qBlock ?_
      refine qSeq ?_
      refine wSeq ?_
      refine wRegion ?_
      refine rmS rfl rfl rfl rfl rfl ?_
      refine rop (o48m t.tm t.nx true true t.lk (.sl false true (t.sn.map Sn.T)) s h3_1.srt (by have := h3_1.2.2.1; omega) (hn h1_2 h3_1) ?_ ?_) rfl rfl rfl rfl rfl rfl ?_
      · (first | omega | (first | ((simp (disch := (first | omega | assumption)) only [↓appC, ↓updN, ↓updS, ↓app0, ↓hpS, ↓hpN]) <;> first | rfl | assumption) | ((simp (disch := (first | omega | (intro _ _; dsimp only; omega))) only [↓appC, ↓updN, ↓updS, ↓app0, ↓famAO]) <;> first | rfl | assumption) | assumption | rfl) | (first | omega | assumption | (focus (simp; omega))))
      · (first | omega | (first | ((simp (disch := (first | omega | assumption)) only [↓appC, ↓updN, ↓updS, ↓app0, ↓hpS, ↓hpN]) <;> first | rfl | assumption) | ((simp (disch := (first | omega | (intro _ _; dsimp only; omega))) only [↓appC, ↓updN, ↓updS, ↓app0, ↓famAO]) <;> first | rfl | assumption) | assumption | rfl) | (first | omega | assumption | (focus (simp; omega))))
      refine rmT rfl rfl rfl rfl rfl ?_
      refine rex rfl rfl rfl rfl rfl rfl ?_
      refine rex rfl rfl rfl rfl rfl rfl ?_
      refine raI rfl rfl rfl rfl rfl ?_
      refine raB rfl rfl rfl rfl rfl ?_
      refine rNil ?_
      refine qSeq ?_
      refine wSeq ?_
      refine wSeq ?_
      refine wRegion ?_
      refine rmB rfl rfl rfl rfl rfl ?_
      refine rnot (c := false) rfl rfl rfl rfl rfl ?_
      refine rNil ?_
      refine qSeq ?_
      refine wT rfl ?_
      refine wSeq ?_
      refine wRegion ?_
      refine rbd (cs := [.str _, .int _ _, .int _ _, .int _ _, _]) rfl rfl rfl rfl rfl ?_
      (apply rst (u := .agg [.str _, .int _ _, .int _ _, .int _ _, _]) rfl rfl rfl; (first | ((simp (disch := (first | omega | assumption)) only [↓appC, ↓updN, ↓updS, ↓app0, ↓hpS, ↓hpN]) <;> first | rfl | assumption) | ((simp (disch := (first | omega | (intro _ _; dsimp only; omega))) only [↓appC, ↓updN, ↓updS, ↓app0, ↓famAO]) <;> first | rfl | assumption) | assumption | rfl); rfl; rfl; rfl; rfl; rfl; (exact Nat.le_of_ble_eq_true rfl); rfl; rfl; rfl)
      refine raI rfl rfl rfl rfl rfl ?_
      refine rNil ?_
      refine qSeq ?_
      refine wRet ?_
      refine qSeqR ?_
      rw [lAt_none h1_2 h3_1 (hn h1_2 h3_1)]; exact finO (resL_cons (resV_row rfl (by (first | ((simp (disch := (first | omega | assumption)) only [↓appC, ↓updN, ↓updS, ↓app0, ↓hpS, ↓hpN]) <;> first | rfl | assumption) | ((simp (disch := (first | omega | (intro _ _; dsimp only; omega))) only [↓appC, ↓updN, ↓updS, ↓app0, ↓famAO]) <;> first | rfl | assumption) | assumption | rfl)) rfl rfl (Nat.le_of_ble_eq_true rfl) rfl) (resL_cons rfl resL_nil)) rfl (fun _ id b e => absurd e (noneW id b)) (by omega)
    · refine rnot (c := false) rfl rfl rfl rfl rfl ?_
      refine raB rfl rfl rfl rfl rfl ?_
      refine rNil ?_
      refine qSeq ?_
      refine wT rfl ?_
      refine wSeq ?_
      refine wRegion ?_
      refine rbd (cs := [.str _, .int _ _, .int _ _, .int _ _, _]) rfl rfl rfl rfl rfl ?_
      (apply rst (u := .agg [.str _, .int _ _, .int _ _, .int _ _, _]) rfl rfl rfl; (first | ((simp (disch := (first | omega | assumption)) only [↓appC, ↓updN, ↓updS, ↓app0, ↓hpS, ↓hpN]) <;> first | rfl | assumption) | ((simp (disch := (first | omega | (intro _ _; dsimp only; omega))) only [↓appC, ↓updN, ↓updS, ↓app0, ↓famAO]) <;> first | rfl | assumption) | assumption | rfl); rfl; rfl; rfl; rfl; rfl; (exact Nat.le_of_ble_eq_true rfl); rfl; rfl; rfl)
      refine raI rfl rfl rfl rfl rfl ?_
      refine rNil ?_
      refine qSeq ?_
      refine wRet ?_
      refine qBlockR ?_
      refine qSeqR ?_
      rw [lAt_bad h1_2 h3_1]; exact finO (resL_cons (resV_row rfl (by (first | ((simp (disch := (first | omega | assumption)) only [↓appC, ↓updN, ↓updS, ↓app0, ↓hpS, ↓hpN]) <;> first | rfl | assumption) | ((simp (disch := (first | omega | (intro _ _; dsimp only; omega))) only [↓appC, ↓updN, ↓updS, ↓app0, ↓famAO]) <;> first | rfl | assumption) | assumption | rfl)) rfl rfl (Nat.le_of_ble_eq_true rfl) rfl) (resL_cons rfl resL_nil)) rfl (fun _ id b e => absurd e (noneW id b)) (by omega)
theorem o12f (t : Tb) (s : ByteArray) (hs : ¬ s.size > 65536) (hok : t.OK) (hh : hit s t.lk) {n : Nat} : V.Open En 12 ([A.agg (t.T true true true), A.one (.str s)].map (A.toV false)) (fun _ => none) n (.tup [.agg ((lAt t s).1.V (.view (n + 3 + t.lk.length + 1 + 5 + 5 * pos s t.lk + 2) 0 (lAt t s).1.ws.length)), .int .i64 (lAt t s).2])
    [(n + 3 + t.lk.length + 1 + 5 + 5 * pos s t.lk + 2, some ⟨(lAt t s).1.ws.map wtV, 2, 123⟩)] (n + 9 + 6 * t.lk.length) := by
  refine V.Open.of_wp Try.func12 rfl (Nat.le_of_ble_eq_true rfl) ?_
  refine wSeq ?_
  refine wRegion ?_
  (refine rbx (u := .agg [.int .i64 t.tm, .int .i64 t.nx, .sl false true (t.lk.map (Lk.T true)), .sl false true (t.sn.map Sn.T)]) rfl rfl rfl rfl rfl rfl rfl ?_)
  refine ral rfl rfl rfl rfl rfl rfl ?_
  refine raI rfl rfl rfl rfl rfl ?_
  refine rNil ?_
  refine qSeq ?_
  refine wSeq ?_
  refine wBlock ?_
  refine wSeq ?_
  refine wRegion ?_
  refine rmS rfl rfl rfl rfl rfl ?_
  refine rbs (es := [[.str _]]) rfl rfl rfl rfl (Nat.succ_ne_zero _) (Nat.le_of_ble_eq_true rfl) rfl rfl rfl rfl rfl ?_
  apply rclSP [n + 2] (s47 s) rfl rfl rfl
  · exact SnapL.cons _ _ _ _ (.one _ _ (snapView (b := ⟨[[.str s]], 1, 9⟩) [[.str s]] (List.mem_singleton.2 rfl) (by (first | ((simp (disch := (first | omega | assumption)) only [↓appC, ↓updN, ↓updS, ↓app0, ↓hpS, ↓hpN]) <;> first | rfl | assumption) | ((simp (disch := (first | omega | (intro _ _; dsimp only; omega))) only [↓appC, ↓updN, ↓updS, ↓app0, ↓famAO]) <;> first | rfl | assumption) | assumption | rfl)) rfl rfl)) SnapL.nil
  · rfl
  · rfl
  · rfl
  all_goals intro h1_2
  · refine raB rfl rfl rfl rfl rfl ?_
    refine rNil ?_
    refine qSeq ?_
    refine wT rfl ?_
    refine wSeq ?_
    exact absurd h1_2 hs
  · refine raB rfl rfl rfl rfl rfl ?_
    refine rNil ?_
    refine qSeq ?_
    refine wF rfl ?_
    refine wSeq ?_
    refine wRegion ?_
    (apply rlr (vs := [.int _ _, .int _ _, _, _]) rfl rfl; (first | ((simp (disch := (first | omega | assumption)) only [↓appC, ↓updN, ↓updS, ↓app0, ↓hpS, ↓hpN]) <;> first | rfl | assumption) | ((simp (disch := (first | omega | (intro _ _; dsimp only; omega))) only [↓appC, ↓updN, ↓updS, ↓app0, ↓famAO]) <;> first | rfl | assumption) | assumption | rfl); rfl; rfl; (exact Nat.le_of_ble_eq_true rfl); rfl; rfl; rfl; rfl)
    refine rclP (p23 t true true true) rfl rfl rfl rfl rfl rfl ?_ ?_ <;> intro h3_1
    · refine rnot (c := true) rfl rfl rfl rfl rfl ?_
      refine raB rfl rfl rfl rfl rfl ?_
      refine rNil ?_
      refine qSeq ?_
      refine wF rfl ?_
      refine wSkip ?_
      refine qBlock ?_
      refine qSeq ?_
      refine wSeq ?_
      refine wRegion ?_
      refine rmS rfl rfl rfl rfl rfl ?_
      refine rop (o48h t.tm t.nx true true t.lk (.sl false true (t.sn.map Sn.T)) s h3_1.srt (by have := h3_1.2.2.1; omega) hh ?_ ?_) rfl rfl rfl rfl rfl rfl ?_
      · (first | omega | (first | ((simp (disch := (first | omega | assumption)) only [↓appC, ↓updN, ↓updS, ↓app0, ↓hpS, ↓hpN]) <;> first | rfl | assumption) | ((simp (disch := (first | omega | (intro _ _; dsimp only; omega))) only [↓appC, ↓updN, ↓updS, ↓app0, ↓famAO]) <;> first | rfl | assumption) | assumption | rfl) | (first | omega | assumption | (focus (simp; omega))))
      · (first | omega | (first | ((simp (disch := (first | omega | assumption)) only [↓appC, ↓updN, ↓updS, ↓app0, ↓hpS, ↓hpN]) <;> first | rfl | assumption) | ((simp (disch := (first | omega | (intro _ _; dsimp only; omega))) only [↓appC, ↓updN, ↓updS, ↓app0, ↓famAO]) <;> first | rfl | assumption) | assumption | rfl) | (first | omega | assumption | (focus (simp; omega))))
      refine rmT rfl rfl rfl rfl rfl ?_
      refine rex rfl rfl rfl rfl rfl rfl ?_
      refine rex rfl rfl rfl rfl rfl rfl ?_
      refine raI rfl rfl rfl rfl rfl ?_
      refine raB rfl rfl rfl rfl rfl ?_
      refine rNil ?_
      refine qSeq ?_
      refine wSeq ?_
      refine wSeq ?_
      refine wRegion ?_
      refine rmB rfl rfl rfl rfl rfl ?_
      refine rnot (c := true) rfl rfl rfl rfl rfl ?_
      refine rNil ?_
      refine qSeq ?_
      refine wF rfl ?_
      refine wSkip ?_
      refine qSeq ?_
      refine wSeq ?_
      refine wRegion ?_
      (apply rlr (vs := [.int _ _, .int _ _, _, _]) rfl rfl; (first | ((simp (disch := (first | omega | assumption)) only [↓appC, ↓updN, ↓updS, ↓app0, ↓hpS, ↓hpN]) <;> first | rfl | assumption) | ((simp (disch := (first | omega | (intro _ _; dsimp only; omega))) only [↓appC, ↓updN, ↓updS, ↓app0, ↓famAO]) <;> first | rfl | assumption) | assumption | rfl); rfl; rfl; (exact Nat.le_of_ble_eq_true rfl); rfl; rfl; rfl; rfl)
      refine rop (o49 t false (by have := h3_1.2.2.1; omega) (Nat.lt_of_le_of_lt (Nat.zero_le _) hh.1) (fun i hi => by have := OKw h3_1 hi; omega) (by have := h3_1.2.2.2.1; omega)) rfl rfl rfl rfl rfl rfl ?_
      refine rfd  rfl rfl rfl rfl (Nat.le_of_ble_eq_true rfl) rfl rfl rfl ?_
      refine rmI rfl rfl rfl rfl rfl ?_
      (have hp := hh.1; apply rixv rfl rfl rfl rfl; (first | ((simp (disch := (first | omega | assumption)) only [↓appC, ↓updN, ↓updS, ↓app0, ↓hpS, ↓hpN]) <;> first | rfl | assumption) | ((simp (disch := (first | omega | (intro _ _; dsimp only; omega))) only [↓appC, ↓updN, ↓updS, ↓app0, ↓famAO]) <;> first | rfl | assumption) | assumption | rfl); rfl; omega; omega; rfl; rfl; rfl)
      (apply rlr (vs := [.str _, .int _ _, .int _ _, .int _ _, _]) rfl rfl; (first | ((simp (disch := (first | omega | assumption)) only [↓appC, ↓updN, ↓updS, ↓app0, ↓hpS, ↓hpN]) <;> first | rfl | assumption) | ((simp (disch := (first | omega | (intro _ _; dsimp only; omega))) only [↓appC, ↓updN, ↓updS, ↓app0, ↓famAO]) <;> first | rfl | assumption) | assumption | rfl); exact rwGet (r := (t.lk.getD (pos s t.lk) Lk0).V (.view (n + 3 + t.lk.length + 1 + 5 + 5 * pos s t.lk + 2) 0 (t.lk.getD (pos s t.lk) Lk0).ws.length)) hh.1 rfl; rfl; (exact Nat.le_of_ble_eq_true rfl); rfl; rfl; rfl; rfl)
      (apply rst (u := .agg [.str _, .int _ _, .int _ _, .int _ _, _]) rfl rfl rfl; (first | ((simp (disch := (first | omega | assumption)) only [↓appC, ↓updN, ↓updS, ↓app0, ↓hpS, ↓hpN]) <;> first | rfl | assumption) | ((simp (disch := (first | omega | (intro _ _; dsimp only; omega))) only [↓appC, ↓updN, ↓updS, ↓app0, ↓famAO]) <;> first | rfl | assumption) | assumption | rfl); rfl; rfl; rfl; rfl; rfl; (exact Nat.le_of_ble_eq_true rfl); rfl; rfl; rfl)
      refine raI rfl rfl rfl rfl rfl ?_
      refine rNil ?_
      refine qSeq ?_
      refine wRet ?_
      rw [lAt_hit h1_2 h3_1 hh]
      refine finO (resL_cons (resV_row rfl (by (first | ((simp (disch := (first | omega | assumption)) only [↓appC, ↓updN, ↓updS, ↓app0, ↓hpS, ↓hpN]) <;> first | rfl | assumption) | ((simp (disch := (first | omega | (intro _ _; dsimp only; omega))) only [↓appC, ↓updN, ↓updS, ↓app0, ↓famAO]) <;> first | rfl | assumption) | assumption | rfl)) rfl rfl (Nat.le_of_ble_eq_true rfl) rfl) (resL_cons rfl resL_nil)) rfl ?_ (by omega)
      refine leWr (fun j hj => ?_) (fun j hj hn => ?_)
      · simp only [List.map_cons, List.map_nil, List.mem_cons, List.not_mem_nil, or_false] at hj
        rw [hj]
        simp (disch := omega) only [↓appC, ↓updN, ↓updS, ↓app0]
        exact famA (w := (fun i => n + 3 + t.lk.length + 1 + 5 + 5 * i + 2)) (fun a b _ _ e => by (try dsimp only at e); omega) hh.1
      · simp only [List.map_cons, List.map_nil, List.mem_cons, List.not_mem_nil, or_false, not_or] at hn
        simp (disch := (first | omega | (intro _ _; dsimp only; omega))) only [↓appC, ↓updN, ↓updS, ↓app0, ↓famAO]
    · refine rnot (c := false) rfl rfl rfl rfl rfl ?_
      refine raB rfl rfl rfl rfl rfl ?_
      refine rNil ?_
      refine qSeq ?_
      refine wT rfl ?_
      refine wSeq ?_
      exact absurd hok h3_1
end Go.Proofs.Ytknnniaoboaghaa
