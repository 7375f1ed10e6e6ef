import Derived.Test.YtnkpjlpappmccaaE11
namespace Go.Proofs.Ytnkpjlpappmccaa
open Go.V
set_option linter.unusedVariables false
set_option linter.unusedSimpArgs false
set_option maxRecDepth 20000
set_option maxHeartbeats 4000000

theorem get2_T2 {l : Lk} {i j : Nat} {c : _root_.Go.V.T} (h : get2 [l.T] i j = some c) : ∃ c', get2 [l.T2] i j = some c' ∧ TW c' c := by
  match i, j with
  | 0, 0 => have h : some (T.str l.nm) = some c := h; cases h; exact ⟨_, rfl, .refl _⟩
  | 0, 1 => have h : some (T.int .i64 l.tk) = some c := h; cases h; exact ⟨_, rfl, .refl _⟩
  | 0, 2 => have h : some (T.int .i64 l.hd) = some c := h; cases h; exact ⟨_, rfl, .refl _⟩
  | 0, 3 => have h : some (T.int .i64 l.ex) = some c := h; cases h; exact ⟨_, rfl, .refl _⟩
  | 0, 4 => have h : some (T.sl false (l.ws.map wtT)) = some c := h; cases h; exact ⟨_, rfl, .sl _ _⟩
  | 0, j + 5 => exact absurd h nofun
  | i + 1, j => exact absurd h nofun
theorem trLk {I : Nat → Prop} {w : World} {l : Lk} {nn : Bool} {v : Value} (h : TR I w (.sl nn [l.T2]) v) : TR I w (.sl nn [l.T]) v := by
  cases h with
  | sl _ _ a len cap sz rd hlen hcap hnil hI hsz hrd hsub =>
    refine .sl nn [l.T] a len cap sz rd hlen hcap (fun h => nomatch (hnil h).2.1) (fun A hA _ => hI A hA (List.cons_ne_nil _ _)) (fun e he => ?_) (fun A i j c hA hc => ?_) (fun i j c hc => ?_)
    · rw [List.mem_singleton] at he; subst he
      exact hsz l.T2 (List.mem_singleton.2 rfl)
    · obtain ⟨c', h1, _⟩ := get2_T2 hc
      exact hrd A i j c' hA h1
    · obtain ⟨c', h1, h2⟩ := get2_T2 hc
      exact h2.ok (hsub i j c' h1)
theorem p23t (n1 : Bool) (tm nx : Int) (l : Lk) (L : List Sn) (hok : (Tb.mk tm nx [l] L).OK) : Pure En 23 [.agg [.int .i64 tm, .int .i64 nx, .sl n1 [l.T2], .sl true (L.map Sn.T)]] [.one (.bool true)] := by
  have h := p23 (Tb.mk tm nx [l] L) n1 true
  rw [decide_eq_true hok] at h
  unfold V.Pure at h ⊢
  refine ⟨h.1, fun I w vs h1 h2 h3 h4 => h.2 I w vs h1 h2 h3 fun i a v ha hv => ?_⟩
  match i with
  | 0 =>
    simp only [List.getElem?_cons_zero, Option.some.injEq] at ha
    subst ha
    have := h4 0 _ v rfl hv
    cases this with
    | agg _ us hl hu =>
      refine .agg _ us hl fun j x u hx hu' => ?_
      match j with
      | 0 => exact hu 0 x u hx hu'
      | 1 => exact hu 1 x u hx hu'
      | 2 =>
        have hx : some (T.sl n1 [l.T]) = some x := hx
        cases hx
        exact trLk (hu 2 _ u rfl hu')
      | 3 => exact hu 3 x u hx hu'
      | j + 4 => exact absurd hx nofun
  | i + 1 => exact absurd ha nofun
theorem o48s (fr nn : Bool) (l : Lk) {h : Heap} {n : Nat} : V.Open En 48 [.sl fr nn [l.T2], .str l.nm, .clo 49 []] h n (.tup [.int .i64 0, .bool true]) [] (n + 2) := by
  refine V.Open.of_wp Try.func48 rfl (Nat.le_of_ble_eq_true rfl) ?_
  refine wSeq ?_
  refine wRegion ?_
  refine raI rfl rfl rfl rfl rfl ?_
  refine raB rfl rfl rfl rfl rfl ?_
  refine rNil ?_
  refine qSeq ?_
  refine wSeq ?_
  refine wRegion ?_
  refine rmL rfl rfl rfl rfl rfl ?_
  refine rll rfl rfl rfl rfl rfl rfl ?_
  refine raI rfl rfl rfl rfl rfl ?_
  refine rNil ?_
  refine qSeq ?_
  refine wSeq ?_
  refine wRegion ?_
  refine rmI rfl rfl rfl rfl rfl ?_
  refine raI rfl rfl rfl rfl rfl ?_
  refine raI rfl rfl rfl rfl rfl ?_
  refine rNil ?_
  refine qSeq ?_
  refine wSeq ?_
  refine wBlock ?_
  refine wLoop ?_
  refine lStep ?_
  refine wSeq ?_
  refine wSeq ?_
  refine wRegion ?_
  refine rmI rfl rfl rfl rfl rfl ?_
  refine rmI rfl rfl rfl rfl rfl ?_
  refine rlt rfl rfl rfl rfl rfl rfl ?_ (fun h => absurd (by show (0 : Int) < 1; decide) h)
  intro h3_2
  refine rNil ?_
  refine qSeq ?_
  refine wT rfl ?_
  refine wSkip ?_
  refine qSeq ?_
  refine wBlock ?_
  refine wSeq ?_
  refine wRegion ?_
  refine rmI rfl rfl rfl rfl rfl ?_
  refine rmI rfl rfl rfl rfl rfl ?_
  refine raddF rfl rfl rfl ?_ ?_ rfl rfl rfl ?_
  · (first | omega | assumption | decide | exact of_decide_eq_true rfl)
  · (first | omega | assumption | decide | exact of_decide_eq_true rfl)
  refine rcv rfl rfl rfl rfl rfl rfl rfl ?_
  refine rshr rfl rfl rfl ?_ rfl rfl rfl ?_
  · (first | omega | assumption | decide | exact of_decide_eq_true rfl)
  refine rcvF rfl rfl rfl rfl ?_ ?_ rfl rfl rfl ?_
  · (first | exact bt_ge _ _ | exact bt_le _ _ | omega | (first | omega | assumption | decide | exact of_decide_eq_true rfl))
  · (first | exact bt_ge _ _ | exact bt_le _ _ | omega | (first | omega | assumption | decide | exact of_decide_eq_true rfl))
  refine raI (k := .i64) (a := 0) rfl rfl rfl rfl rfl ?_
  refine rNil ?_
  refine qSeq ?_
  refine wSeq ?_
  refine wRegion ?_
  refine rmC rfl rfl rfl rfl rfl ?_
  refine rmL rfl rfl rfl rfl rfl ?_
  refine rmI rfl rfl rfl rfl rfl ?_
  (apply rixl rfl rfl rfl rfl; (first | omega | assumption | decide | exact of_decide_eq_true rfl); (first | rfl | assumption | rfl); rfl; rfl; rfl; rfl)
  refine rlir (vs := [.str _, .int _ _, .int _ _, .int _ _, _]) rfl rfl rfl (Nat.le_of_ble_eq_true rfl) rfl rfl rfl rfl ?_
  refine rmS rfl rfl rfl rfl rfl ?_
  refine rop (o49s l (.sl fr true (l.ws.map wtT)) rfl) rfl rfl rfl rfl rfl rfl ?_
  refine rlt rfl rfl rfl rfl rfl rfl (fun h => absurd h (by decide)) ?_
  intro h5_7
  refine rNil ?_
  refine qSeq ?_
  refine wF rfl ?_
  refine wRegion ?_
  refine rmI rfl rfl rfl rfl rfl ?_
  refine raI rfl rfl rfl rfl rfl ?_
  refine rNil ?_
  refine qBlock ?_
  refine qLoop ?_
  refine lStep ?_
  refine wSeq ?_
  refine wSeq ?_
  refine wRegion ?_
  refine rmI rfl rfl rfl rfl rfl ?_
  refine rmI rfl rfl rfl rfl rfl ?_
  refine rlt rfl rfl rfl rfl rfl rfl (fun h => absurd h (by show ¬ ((0 : Int) < 0); decide)) ?_
  intro h3_2
  refine rNil ?_
  refine qSeq ?_
  refine wF rfl ?_
  refine wExit ?_
  refine qSeqX ?_
  refine qLoopX ?_
  refine qBlockX ?_
  refine qSeq ?_
  refine wSeq ?_
  refine wRegion ?_
  refine rmI rfl rfl rfl rfl rfl ?_
  refine rmI rfl rfl rfl rfl rfl ?_
  refine rmI rfl rfl rfl rfl rfl ?_
  refine rlt rfl rfl rfl rfl rfl rfl ?_ (fun h => absurd (by show (0 : Int) < 1; decide) h)
  intro h8_3
  refine rmB rfl rfl rfl rfl rfl ?_
  refine rmC rfl rfl rfl rfl rfl ?_
  refine rmL rfl rfl rfl rfl rfl ?_
  refine rmI rfl rfl rfl rfl rfl ?_
  (apply rixl rfl rfl rfl rfl; (first | omega | assumption | decide | exact of_decide_eq_true rfl); (first | rfl | assumption | rfl); rfl; rfl; rfl; rfl)
  refine rlir (vs := [.str _, .int _ _, .int _ _, .int _ _, _]) rfl rfl rfl (Nat.le_of_ble_eq_true rfl) rfl rfl rfl rfl ?_
  refine rmS rfl rfl rfl rfl rfl ?_
  refine rop (o49s l (.sl fr true (l.ws.map wtT)) rfl) rfl rfl rfl rfl rfl rfl ?_
  refine req rfl rfl rfl rfl rfl rfl ?_ (fun h => absurd (by decide) h)
  intro h8_12
  refine rpk (e := true) rfl rfl rfl rfl rfl rfl ?_
  refine raI rfl rfl rfl rfl rfl ?_
  refine raB rfl rfl rfl rfl rfl ?_
  refine rNil ?_
  refine qSeq ?_
  refine wRet ?_
  exact finO rfl rfl (leWr (fun j hj => absurd hj List.not_mem_nil) (fun j hj hn => by first | rfl | (simp (disch := omega) only [↓app0, ↓appC, ↓updS, ↓updN]))) (by omega)
theorem o24s (fr nn : Bool) (l : Lk) (tm nx : Int) (Ss : V) {id : Nat} {h : Heap} {n : Nat} (hid : id < n) (hh : h id = some ⟨[[.int .i64 tm, .int .i64 nx, .sl fr nn [l.T2], Ss]], 4, 38⟩) : V.Open En 24 [.ptr id 0 0, .str l.nm] h n (.tup [.int .i64 0, .bool true]) [] (n + 2) := by
  refine V.Open.of_wp Try.func24 rfl (Nat.le_of_ble_eq_true rfl) ?_
  refine wSeq ?_
  refine wRegion ?_
  refine raI rfl rfl rfl rfl rfl ?_
  refine raB rfl rfl rfl rfl rfl ?_
  refine rNil ?_
  refine qSeq ?_
  refine wSeq ?_
  refine wRegion ?_
  refine rmP rfl rfl rfl rfl rfl ?_
  refine rnc (v := .ptr _ _ _) rfl rfl rfl rfl rfl rfl ?_
  refine rfa (off := 2) (s := 1) (r := false) rfl rfl rfl (Nat.succ_ne_zero _) rfl rfl rfl ?_
  (apply rlc (v := .sl _ _ _) rfl rfl; (first | ((simp (disch := omega) only [↓app0, ↓appC, ↓updS, ↓updN, ↓hpS, ↓hpN]) <;> first | rfl | assumption) | assumption | rfl); rfl; rfl; rfl; rfl; rfl; rfl)
  refine rmS rfl rfl rfl rfl rfl ?_
  refine rop (o48s fr nn l) rfl rfl rfl rfl rfl rfl ?_
  refine rex rfl rfl rfl rfl rfl rfl ?_
  refine rex rfl rfl rfl rfl rfl rfl ?_
  refine raI rfl rfl rfl rfl rfl ?_
  refine raB rfl rfl rfl rfl rfl ?_
  refine rNil ?_
  refine qSeq ?_
  refine wRet ?_
  exact finO rfl rfl (fun _ _ _ e => e) (by omega)

theorem p12 (n1 : Bool) (nx : Int) (l : Lk) (L : List Sn) (hnm : l.nm.size ≤ 65536) (hok : (Tb.mk 0 nx [l] L).OK) (hW : l.ws.length ≤ 1000) (hL : L.length ≤ 1000) : Pure En 12 [.agg [.int .i64 0, .int .i64 nx, .sl n1 [l.T2], .sl true (L.map Sn.T)], .one (.str l.nm)] [.agg l.T2, .one (.int .i64 0)] := by
  refine Pure.of_wp Try.func12 rfl (Nat.le_of_ble_eq_true rfl) ?_
  refine wSeq ?_
  refine wRegion ?_
  refine rbx (u := .agg [.int _ _, .int _ _, _, _]) rfl rfl rfl rfl rfl rfl rfl ?_
  refine ral rfl rfl rfl rfl rfl rfl ?_
  refine raI rfl rfl rfl rfl rfl ?_
  refine rNil ?_
  refine qSeq ?_
  refine wSeq ?_
  refine wBlock ?_
  refine wSeq ?_
  refine wRegion ?_
  refine rmS rfl rfl rfl rfl rfl ?_
  refine rbs (es := [[.str _]]) rfl rfl rfl rfl (Nat.succ_ne_zero _) (Nat.le_of_ble_eq_true rfl) rfl rfl rfl rfl rfl ?_
  apply rclS [2] (p22 true l.nm hnm) rfl rfl rfl
  · exact SnapL.cons _ _ _ _ (.one _ _ (snapView (b := ⟨[[.str l.nm]], 1, 9⟩) [[.str l.nm]] (List.mem_singleton.2 rfl) rfl rfl rfl)) SnapL.nil
  · rfl
  · rfl
  · rfl
  refine raB rfl rfl rfl rfl rfl ?_
  refine rNil ?_
  refine qSeq ?_
  refine wF rfl ?_
  refine wSeq ?_
  refine wRegion ?_
  (apply rlr (vs := [.int _ _, .int _ _, _, _]) rfl rfl; (first | ((simp (disch := omega) only [↓app0, ↓appC, ↓updS, ↓updN, ↓hpS, ↓hpN]) <;> first | rfl | assumption) | assumption | rfl); rfl; rfl; (exact Nat.le_of_ble_eq_true rfl); rfl; rfl; rfl; rfl)
  refine rcl (p23t n1 0 nx l L hok) rfl rfl rfl rfl rfl rfl ?_
  refine rnot (c := true) rfl rfl rfl rfl rfl ?_
  refine raB rfl rfl rfl rfl rfl ?_
  refine rNil ?_
  refine qSeq ?_
  refine wF rfl ?_
  refine wSkip ?_
  refine qBlock ?_
  refine qSeq ?_
  refine wSeq ?_
  refine wRegion ?_
  refine rmS rfl rfl rfl rfl rfl ?_
  refine rop (o24s false n1 l 0 nx (.sl false true (L.map Sn.T)) ?_ ?_) rfl rfl rfl rfl rfl rfl ?_
  · (first | omega | (first | ((simp (disch := omega) only [↓app0, ↓appC, ↓updS, ↓updN, ↓hpS, ↓hpN]) <;> first | rfl | assumption) | assumption | rfl) | (first | omega | assumption | (focus (simp; omega))))
  · (first | omega | (first | ((simp (disch := omega) only [↓app0, ↓appC, ↓updS, ↓updN, ↓hpS, ↓hpN]) <;> first | rfl | assumption) | assumption | rfl) | (first | omega | assumption | (focus (simp; omega))))
  refine rmT rfl rfl rfl rfl rfl ?_
  refine rex rfl rfl rfl rfl rfl rfl ?_
  refine rexB rfl rfl rfl rfl rfl rfl ?_ (fun h => by cases h)
  intro h5_4
  refine raI rfl rfl rfl rfl rfl ?_
  refine raB rfl rfl rfl rfl rfl ?_
  refine rNil ?_
  refine qSeq ?_
  refine wSeq ?_
  refine wSeq ?_
  refine wRegion ?_
  refine rmB rfl rfl rfl rfl rfl ?_
  refine rnot (c := true) rfl rfl rfl rfl rfl ?_
  refine rNil ?_
  refine qSeq ?_
  refine wF rfl ?_
  refine wSkip ?_
  refine qSeq ?_
  refine wSeq ?_
  refine wRegion ?_
  (apply rlr (vs := [.int _ _, .int _ _, _, _]) rfl rfl; (first | ((simp (disch := omega) only [↓app0, ↓appC, ↓updS, ↓updN, ↓hpS, ↓hpN]) <;> first | rfl | assumption) | assumption | rfl); rfl; rfl; (exact Nat.le_of_ble_eq_true rfl); rfl; rfl; rfl; rfl)
  refine rop (o25 false n1 0 nx l L hW hL) rfl rfl rfl rfl rfl rfl ?_
  refine rfd  rfl rfl rfl rfl (Nat.le_of_ble_eq_true rfl) rfl rfl rfl ?_
  refine rmI rfl rfl rfl rfl rfl ?_
  (apply rixv rfl rfl rfl rfl; (first | ((simp (disch := omega) only [↓app0, ↓appC, ↓updS, ↓updN, ↓hpS, ↓hpN]) <;> first | rfl | assumption) | assumption | rfl); rfl; (first | omega | assumption | (focus (simp; omega))); (first | omega | assumption | (focus (simp; omega))); rfl; rfl; rfl)
  (apply rlr (vs := [.str _, .int _ _, .int _ _, .int _ _, _]) rfl rfl; (first | ((simp (disch := omega) only [↓app0, ↓appC, ↓updS, ↓updN, ↓hpS, ↓hpN]) <;> first | rfl | assumption) | assumption | rfl); rfl; rfl; (exact Nat.le_of_ble_eq_true rfl); rfl; rfl; rfl; rfl)
  (apply rst (u := .agg [.str _, .int _ _, .int _ _, .int _ _, _]) rfl rfl rfl; (first | ((simp (disch := omega) only [↓app0, ↓appC, ↓updS, ↓updN, ↓hpS, ↓hpN]) <;> first | rfl | assumption) | assumption | rfl); rfl; rfl; rfl; rfl; rfl; (exact Nat.le_of_ble_eq_true rfl); rfl; rfl; rfl)
  refine raI rfl rfl rfl rfl rfl ?_
  refine rNil ?_
  refine qSeq ?_
  refine wRet ?_
  exact fin rfl rfl

end Go.Proofs.Ytnkpjlpappmccaa
