import Derived.Test.YtnkpjlpappmccaaE13
namespace Go.Proofs.Ytnkpjlpappmccaa
open Go.V
set_option linter.unusedVariables false
set_option linter.unusedSimpArgs false
set_option maxRecDepth 20000
set_option maxHeartbeats 4000000

/-! The requests of the law: client i asks for the lock, in order. -/
def lockNm : ByteArray := ⟨#[108, 111, 99, 107]⟩
def rq (le : Nat → Int) (i : Nat) : Rq := ⟨(i : Nat), 1, 1, le i, lockNm⟩
def wsOf (le : Nat → Int) (i : Nat) : List Wt := (List.range (i - 1)).map fun j => (((j + 1 : Nat) : Int), le (j + 1))
def lkOf (le : Nat → Int) (i : Nat) : Lk := ⟨lockNm, 1, ((0 : Nat) : Int), 0 + le 0, wsOf le i⟩
def anOf (le : Nat → Int) (j : Nat) : An := ⟨if j = 0 then 1 else 2, 1, ((0 : Nat) : Int), 0 + le 0⟩
def snOf (le : Nat → Int) (j : Nat) : Sn := ⟨(j : Nat), 1, anOf le j⟩
def snL (le : Nat → Int) (i : Nat) : List Sn := (List.range i).map (snOf le)
def An.V (a : An) : List V := [.int .i64 a.kd, .int .i64 a.tk, .int .i64 a.hd, .int .i64 a.ex]
def anL (le : Nat → Int) (i : Nat) : List An := (List.range i).map (anOf le)
theorem wsOf_length (le : Nat → Int) (i : Nat) : (wsOf le i).length = i - 1 := by simp [wsOf]
theorem snL_length (le : Nat → Int) (i : Nat) : (snL le i).length = i := by simp [snL]
theorem anL_length (le : Nat → Int) (i : Nat) : (anL le i).length = i := by simp [anL]
theorem snL_get (le : Nat → Int) {i j : Nat} (h : j < i) : (snL le i).getD j Sn0 = snOf le j := by simp [snL, h]
theorem snL_cl (le : Nat → Int) (i : Nat) : ∀ j, j < (snL le i).length → ((snL le i).getD j Sn0).cl = j := fun j hj => by
  rw [snL_length] at hj
  rw [snL_get le hj]; rfl
theorem snL_succ (le : Nat → Int) (i : Nat) : snL le (i + 1) = snL le i ++ [snOf le i] := by simp [snL, List.range_succ]
theorem anL_succ (le : Nat → Int) (i : Nat) : anL le (i + 1) = anL le i ++ [anOf le i] := by simp [anL, List.range_succ]
theorem wsOf_succ (le : Nat → Int) {i : Nat} (h : 1 ≤ i) : wsOf le (i + 1) = wsOf le i ++ [(((i : Nat) : Int), le i)] := by
  obtain ⟨k, rfl⟩ : ∃ k, i = k + 1 := ⟨i - 1, by omega⟩
  simp [wsOf, List.range_succ]
theorem wsOf_wix (le : Nat → Int) (i : Nat) : wix ((i : Nat) : Int) (wsOf le i) = -1 := by
  refine wix_none fun j hj => ?_
  rw [wsOf_length] at hj
  have : (wsOf le i).getD j (0, 0) = (((j + 1 : Nat) : Int), le (j + 1)) := by simp [wsOf, hj]
  rw [this]; dsimp only; omega
theorem rowsAn2 (L : List An) : rowsV (L.map An.T) = L.map An.V := by unfold rowsV; rw [List.map_map]; rfl
theorem reqs_length (le : Nat → Int) (n : Nat) : (((List.range n).map (rq le)).map Rq.T).length = n := by simp
theorem reqs_get (le : Nat → Int) {i n : Nat} (h : i < n) : (((List.range n).map (rq le)).map Rq.T)[i]? = some (rq le i).T := by simp [h]
theorem opLock : opName lockNm := ⟨by decide, by decide, by decide, .inl (by decide), fun j hj => .inl (by
  have hj : j < 4 := hj
  match j with
  | 0 => decide
  | 1 => decide
  | 2 => decide
  | 3 => decide
  | j + 4 => omega)⟩
theorem rqOK (le : Nat → Int) (hle : ∀ i, 1 ≤ le i ∧ le i ≤ 100) {i : Nat} (hi : i ≤ 4) : (rq le i).OK := by
  have := hle i
  refine ⟨?_, ?_, ?_, ?_, opLock, ?_⟩ <;> dsimp only [rq] <;> omega
theorem snapLk {h : Heap} {ids : List Nat} {id wb : Nat} (l : Lk) (hid : id ∈ ids) (hw : wb ∈ ids) (hb : h id = some ⟨[l.V (.view wb 0 l.ws.length)], 5, 46⟩) (k2 : h wb = some ⟨l.ws.map wtV, 2, 93⟩) : Snap h ids true (.view id 0 1) (.sl true [l.T2]) := by
  refine .view id 0 1 _ [l.T2] hid hb (Nat.le_refl _) rfl (fun i x y h1 h2 => ?_) (fun i j x y h1 h2 => ?_)
  · match i with
    | 0 =>
      have h1 : some (l.V (.view wb 0 l.ws.length)) = some x := h1
      have h2 : some l.T2 = some y := h2
      cases h1; cases h2; rfl
    | i + 1 => exact absurd h2 nofun
  · match i, j with
    | 0, 0 => have h1 : some (V.str l.nm) = some x := h1; have h2 : some (T.str l.nm) = some y := h2; cases h1; cases h2; exact .str _
    | 0, 1 => have h1 : some (V.int .i64 l.tk) = some x := h1; have h2 : some (T.int .i64 l.tk) = some y := h2; cases h1; cases h2; exact .int _ _
    | 0, 2 => have h1 : some (V.int .i64 l.hd) = some x := h1; have h2 : some (T.int .i64 l.hd) = some y := h2; cases h1; cases h2; exact .int _ _
    | 0, 3 => have h1 : some (V.int .i64 l.ex) = some x := h1; have h2 : some (T.int .i64 l.ex) = some y := h2; cases h1; cases h2; exact .int _ _
    | 0, 4 =>
      have h1 : some (V.view wb 0 l.ws.length) = some x := h1
      have h2 : some (T.sl true (l.ws.map wtT)) = some y := h2
      cases h1; cases h2
      exact snapView (b := ⟨l.ws.map wtV, 2, 93⟩) (l.ws.map wtT) hw k2 (rowsWt2 _).symm (by simp)
    | 0, j + 5 => exact absurd h2 nofun
    | i + 1, j => exact absurd h2 nofun
theorem zs_length (n : Nat) : ((List.range n).map zr).length = n := by simp

structure RS where
  i : Nat
  wb : Nat
  sb : Nat
  rb : Nat
  m : Nat
theorem p11 (le : Nat → Int) (n : Nat) (n1 n2 : Bool) (hn : 2 ≤ n ∧ n ≤ 4) (hle : ∀ i, 1 ≤ le i ∧ le i ≤ 100) :
    Pure En 11 [.one (.sl n1 (((List.range n).map (rq le)).map Rq.T)), .one (.sl n2 ((List.range n).map zr))] [.agg [.int .i64 0, .int .i64 (1 + 1), .sl true [(lkOf le n).T2], .sl true ((snL le n).map Sn.T)], .one (.sl true ((anL le n).map An.T)), .one (.int .i64 0)] := by
  have hlr := reqs_length le n
  have hlz := zs_length n
  have hlq : ((List.range n).map (rq le)).length = n := by simp
  have hp19 : Pure En 19 [.one (.sl n1 (((List.range n).map (rq le)).map Rq.T)), .one (.sl n2 ((List.range n).map zr))] [.one (.int .i64 0)] := by
    have h := p19 n1 n2 ((List.range n).map (rq le)) (by omega) (fun j hj => by
      rw [hlq] at hj
      have e : ((List.range n).map (rq le)).getD j Rq0 = rq le j := by simp [hj]
      rw [e]; exact rqOK le hle (by omega))
    rw [hlq] at h; exact h
  refine Pure.of_wp Try.func11 rfl (Nat.le_of_ble_eq_true rfl) ?_
  refine wSeq ?_
  refine wRegion ?_
  refine ral rfl rfl rfl rfl rfl rfl ?_
  refine raN rfl rfl rfl rfl rfl ?_
  refine raI rfl rfl rfl rfl rfl ?_
  refine rNil ?_
  refine qSeq ?_
  refine wSeq ?_
  refine wSeq ?_
  refine wRegion ?_
  refine rmL rfl rfl rfl rfl rfl ?_
  refine rmL rfl rfl rfl rfl rfl ?_
  refine rcl hp19 rfl rfl rfl rfl rfl rfl ?_
  refine raI rfl rfl rfl rfl rfl ?_
  refine rNil ?_
  refine qSeq ?_
  refine wSeq ?_
  refine wRegion ?_
  refine rmI rfl rfl rfl rfl rfl ?_
  refine rne rfl rfl rfl rfl rfl rfl (fun h => absurd h (by decide)) ?_
  intro h2_1
  refine rNil ?_
  refine qSeq ?_
  refine wF rfl ?_
  refine wSkip ?_
  refine qSeq ?_
  refine wSeq ?_
  refine wRegion ?_
  refine rcl p20 rfl rfl rfl rfl rfl rfl ?_
  refine ral rfl rfl rfl rfl rfl rfl ?_
  (apply rst (u := .agg [.int _ _, .int _ _, _, _]) rfl rfl rfl; (first | ((simp (disch := omega) only [↓app0, ↓appC, ↓updS, ↓updN, ↓hpS, ↓hpN]) <;> first | rfl | assumption) | assumption | rfl); rfl; rfl; rfl; rfl; rfl; (exact Nat.le_of_ble_eq_true rfl); rfl; rfl; rfl)
  refine rNil ?_
  refine qSeq ?_
  refine wSeq ?_
  refine wRegion ?_
  refine raN rfl rfl rfl rfl rfl ?_
  refine rNil ?_
  refine qSeq ?_
  refine wSeq ?_
  refine wSeq ?_
  refine wRegion ?_
  refine rmL rfl rfl rfl rfl rfl ?_
  refine rll rfl rfl rfl rfl rfl rfl ?_
  refine rmI rfl rfl rfl rfl rfl ?_
  refine rNil ?_
  refine qSeq ?_
  refine wBlock ?_
  refine wLoop ?_
  refine lStep ?_
  refine wSeq ?_
  refine wRegion ?_
  refine rlt rfl rfl rfl rfl rfl rfl ?_ (fun h => absurd (by omega) h)
  intro h7_0
  refine rNil ?_
  refine qSeq ?_
  refine wSeq ?_
  refine wT rfl ?_
  refine wSkip ?_
  refine qSeq ?_
  refine wSeq ?_
  refine wBlock ?_
  refine wSeq ?_
  refine wRegion ?_
  refine rmI rfl rfl rfl rfl rfl ?_
  (apply rixl rfl rfl rfl rfl; (first | omega | assumption | (focus (simp; omega))); (first | rfl | assumption | (first | exact reqs_get le (by omega) | exact getR zr (by omega))); rfl; rfl; rfl; rfl)
  refine rlir (vs := [.int _ _, .int _ _, .int _ _, .int _ _, .str _]) rfl rfl rfl (Nat.le_of_ble_eq_true rfl) rfl rfl rfl rfl ?_
  refine ral rfl rfl rfl rfl rfl rfl ?_
  refine raI rfl rfl rfl rfl rfl ?_
  (apply rst (u := .agg [.int _ _, .int _ _, .int _ _, .int _ _, .str _]) rfl rfl rfl; (first | ((simp (disch := omega) only [↓app0, ↓appC, ↓updS, ↓updN, ↓hpS, ↓hpN]) <;> first | rfl | assumption) | assumption | rfl); rfl; rfl; rfl; rfl; rfl; (exact Nat.le_of_ble_eq_true rfl); rfl; rfl; rfl)
  refine rNil ?_
  refine qSeq ?_
  refine wDraw [0, 0, 0, 6, 14, 0, 62, 126, 255, 511] rfl (by decide +kernel) ?_
  refine dmN rfl rfl rfl rfl rfl ?_
  refine dmL rfl rfl rfl rfl rfl ?_
  refine dmI rfl rfl rfl rfl rfl ?_
  (apply dixl rfl rfl rfl rfl; (first | omega | assumption | (focus (simp; omega))); (first | rfl | assumption | (first | exact reqs_get le (by omega) | exact getR zr (by omega))); rfl; rfl; rfl; rfl)
  refine dlic (v := .int _ _) rfl rfl rfl rfl rfl rfl rfl rfl ?_
  (apply dlr (vs := [.int _ _, .int _ _, .int _ _, .int _ _, .str _]) rfl rfl; (first | ((simp (disch := omega) only [↓app0, ↓appC, ↓updS, ↓updN, ↓hpS, ↓hpN]) <;> first | rfl | assumption) | assumption | rfl); rfl; rfl; (exact Nat.le_of_ble_eq_true rfl); rfl; rfl; rfl; rfl)
  refine dop (o21a lockNm 0 1 (le 0) 1 rfl (by decide) (by have := hle 0; omega) (id := 1) ?_ ?_) rfl rfl rfl rfl rfl rfl ?_
  · (first | omega | (first | ((simp (disch := omega) only [↓app0, ↓appC, ↓updS, ↓updN, ↓hpS, ↓hpN]) <;> first | rfl | assumption) | assumption | rfl) | (first | omega | assumption | (focus (simp; omega))))
  · (first | omega | (first | ((simp (disch := omega) only [↓app0, ↓appC, ↓updS, ↓updN, ↓hpS, ↓hpN]) <;> first | rfl | assumption) | assumption | rfl) | (first | omega | assumption | (focus (simp; omega))))
  refine dbs (es := [[.int _ _, .int _ _, .int _ _, .int _ _]]) rfl rfl rfl rfl (Nat.succ_ne_zero _) (Nat.le_of_ble_eq_true rfl) rfl rfl rfl rfl rfl ?_
  (apply dan (s' := 32) (es := [[.int _ _, .int _ _, .int _ _, .int _ _]]) rfl rfl rfl rfl (Nat.succ_ne_zero _); (first | rfl | (apply srcView rfl; (first | ((simp (disch := omega) only [↓app0, ↓appC, ↓updS, ↓updN, ↓hpS, ↓hpN]) <;> first | rfl | assumption) | assumption | rfl); (first | exact Nat.le_refl _ | omega); rfl)); (first | rfl | assumption | (focus (simp; done)) | (intro _ _; simp_all)); (first | omega | (focus (simp only [List.length_cons, List.length_nil]; omega)) | exact Nat.le_of_ble_eq_true rfl | ((show (_ + 1) * _ ≤ _); omega) | ((show _ + 1 ≤ _); omega)); (first | omega | (focus (simp only [List.length_cons, List.length_nil]; omega)) | exact Nat.le_of_ble_eq_true rfl | ((show (_ + 1) * _ ≤ _); omega) | ((show _ + 1 ≤ _); omega)); (first | omega | (focus (simp only [List.length_cons, List.length_nil]; omega)) | exact Nat.le_of_ble_eq_true rfl | ((show (_ + 1) * _ ≤ _); omega) | ((show _ + 1 ≤ _); omega)); rfl; rfl; rfl)
  refine daV rfl rfl rfl rfl rfl ?_
  refine dNilR 10 [0, 3, 3, 3, 1, 0, 0, 0, 0, 0] [] rfl rfl (by decide +kernel) trivial ?_
  refine qBlock ?_
  refine qSeq ?_
  refine wRegion ?_
  refine raddF rfl rfl rfl ?_ ?_ rfl rfl rfl ?_
  · (first | omega | assumption | (focus (simp; omega)))
  · (first | omega | assumption | (focus (simp; omega)))
  refine rmI rfl rfl rfl rfl rfl ?_
  refine rNil ?_
  refine qLoop ?_
  refine lStep ?_
  refine wSeq ?_
  refine wRegion ?_
  refine rlt rfl rfl rfl rfl rfl rfl ?_ (fun h => absurd (by omega) h)
  intro h7_0
  refine rNil ?_
  refine qSeq ?_
  refine wSeq ?_
  refine wT rfl ?_
  refine wSkip ?_
  refine qSeq ?_
  refine wSeq ?_
  refine wBlock ?_
  refine wSeq ?_
  refine wRegion ?_
  refine rmI rfl rfl rfl rfl rfl ?_
  (apply rixl rfl rfl rfl rfl; (first | omega | assumption | (focus (simp; omega))); (first | rfl | assumption | (first | exact reqs_get le (by omega) | exact getR zr (by omega))); rfl; rfl; rfl; rfl)
  refine rlir (vs := [.int _ _, .int _ _, .int _ _, .int _ _, .str _]) rfl rfl rfl (Nat.le_of_ble_eq_true rfl) rfl rfl rfl rfl ?_
  refine ral rfl rfl rfl rfl rfl rfl ?_
  refine raI rfl rfl rfl rfl rfl ?_
  (apply rst (u := .agg [.int _ _, .int _ _, .int _ _, .int _ _, .str _]) rfl rfl rfl; (first | ((simp (disch := omega) only [↓app0, ↓appC, ↓updS, ↓updN, ↓hpS, ↓hpN]) <;> first | rfl | assumption) | assumption | rfl); rfl; rfl; rfl; rfl; rfl; (exact Nat.le_of_ble_eq_true rfl); rfl; rfl; rfl)
  refine rNil ?_
  refine qSeq ?_
  refine wDraw [0, 0, 0, 6, 14, 0, 62, 126, 255, 511] rfl (by decide +kernel) ?_
  refine dmV rfl rfl rfl rfl rfl ?_
  refine dmL rfl rfl rfl rfl rfl ?_
  refine dmI rfl rfl rfl rfl rfl ?_
  (apply dixl rfl rfl rfl rfl; (first | omega | assumption | (focus (simp; omega))); (first | rfl | assumption | (first | exact reqs_get le (by omega) | exact getR zr (by omega))); rfl; rfl; rfl; rfl)
  refine dlic (v := .int _ _) rfl rfl rfl rfl rfl rfl rfl rfl ?_
  (apply dlr (vs := [.int _ _, .int _ _, .int _ _, .int _ _, .str _]) rfl rfl; (first | ((simp (disch := omega) only [↓app0, ↓appC, ↓updS, ↓updN, ↓hpS, ↓hpN]) <;> first | rfl | assumption) | assumption | rfl); rfl; rfl; (exact Nat.le_of_ble_eq_true rfl); rfl; rfl; rfl; rfl)
  refine dop (o21b (lkOf le 1) 1 (le 1) (1 + 1) (snL le 1) (by rw [snL_length]; decide) (snL_cl le 1) (show ((0 : Nat) : Int) ≠ -1 by decide) (by rw [snL_length]; show ¬ ((0 : Nat) : Int) = ((1 : Nat) : Int); decide) (show 0 < 0 + le 0 by have := hle 0; omega) (id := 1) (lb := 12) (sb := 19) rfl ?_ ?_ ?_ ?_ ?_ ?_ ?_ ?_ ?_) rfl rfl rfl rfl rfl rfl ?_
  · (first | omega | (first | ((simp (disch := omega) only [↓app0, ↓appC, ↓updS, ↓updN, ↓hpS, ↓hpN]) <;> first | rfl | assumption) | assumption | rfl) | (first | omega | assumption | (focus (simp; omega))))
  · (first | omega | (first | ((simp (disch := omega) only [↓app0, ↓appC, ↓updS, ↓updN, ↓hpS, ↓hpN]) <;> first | rfl | assumption) | assumption | rfl) | (first | omega | assumption | (focus (simp; omega))))
  · (first | omega | (first | ((simp (disch := omega) only [↓app0, ↓appC, ↓updS, ↓updN, ↓hpS, ↓hpN]) <;> first | rfl | assumption) | assumption | rfl) | (first | omega | assumption | (focus (simp; omega))))
  · (first | omega | (first | ((simp (disch := omega) only [↓app0, ↓appC, ↓updS, ↓updN, ↓hpS, ↓hpN]) <;> first | rfl | assumption) | assumption | rfl) | (first | omega | assumption | (focus (simp; omega))))
  · (first | omega | (first | ((simp (disch := omega) only [↓app0, ↓appC, ↓updS, ↓updN, ↓hpS, ↓hpN]) <;> first | rfl | assumption) | assumption | rfl) | (first | omega | assumption | (focus (simp; omega))))
  · (first | omega | (first | ((simp (disch := omega) only [↓app0, ↓appC, ↓updS, ↓updN, ↓hpS, ↓hpN]) <;> first | rfl | assumption) | assumption | rfl) | (first | omega | assumption | (focus (simp; omega))))
  · (first | omega | (first | ((simp (disch := omega) only [↓app0, ↓appC, ↓updS, ↓updN, ↓hpS, ↓hpN]) <;> first | rfl | assumption) | assumption | rfl) | (first | omega | assumption | (focus (simp; omega))))
  · (first | omega | (first | ((simp (disch := omega) only [↓app0, ↓appC, ↓updS, ↓updN, ↓hpS, ↓hpN]) <;> first | rfl | assumption) | assumption | rfl) | (first | omega | assumption | (focus (simp; omega))))
  · (first | omega | (first | ((simp (disch := omega) only [↓app0, ↓appC, ↓updS, ↓updN, ↓hpS, ↓hpN]) <;> first | rfl | assumption) | assumption | rfl) | (first | omega | assumption | (focus (simp; omega))))
  refine dbs (es := [[.int _ _, .int _ _, .int _ _, .int _ _]]) rfl rfl rfl rfl (Nat.succ_ne_zero _) (Nat.le_of_ble_eq_true rfl) rfl rfl rfl rfl rfl ?_
  (apply dap (s' := 32) (es := [[.int _ _, .int _ _, .int _ _, .int _ _]]) rfl rfl; (first | ((simp (disch := omega) only [↓app0, ↓appC, ↓updS, ↓updN, ↓hpS, ↓hpN]) <;> first | rfl | assumption) | assumption | rfl); rfl; rfl; (first | rfl | (show 0 + i = ((anL le i).map An.V).length; rw [List.length_map, anL_length]; omega)); rfl; rfl; exact (Nat.succ_ne_zero _); (first | rfl | (apply srcView rfl; (first | ((simp (disch := omega) only [↓app0, ↓appC, ↓updS, ↓updN, ↓hpS, ↓hpN]) <;> first | rfl | assumption) | assumption | rfl); (first | exact Nat.le_refl _ | omega); rfl)); (first | rfl | assumption | (focus (simp; done)) | (intro _ _; simp_all)); (first | omega | (focus (simp only [List.length_cons, List.length_nil]; omega)) | exact Nat.le_of_ble_eq_true rfl | ((show (_ + 1) * _ ≤ _); omega) | ((show _ + 1 ≤ _); omega)); (first | omega | (focus (simp only [List.length_cons, List.length_nil]; omega)) | exact Nat.le_of_ble_eq_true rfl | ((show (_ + 1) * _ ≤ _); omega) | ((show _ + 1 ≤ _); omega)); rfl; rfl; rfl)
  refine daV rfl rfl rfl rfl rfl ?_
  refine dNilR 10 [0, 3, 3, 3, 1, 0, 0, 0, 0, 0] [] rfl rfl (by decide +kernel) trivial ?_
  refine qBlock ?_
  refine qSeq ?_
  refine wRegion ?_
  refine raddF rfl rfl rfl ?_ ?_ rfl rfl rfl ?_
  · (first | omega | assumption | (focus (simp; omega)))
  · (first | omega | assumption | (focus (simp; omega)))
  refine rmI rfl rfl rfl rfl rfl ?_
  refine rNil ?_
  refine qLoop ?_
  refine loopGo (fun (a : RS) => [.sl false n1 (((List.range n).map (rq le)).map Rq.T), .sl false n2 ((List.range n).map zr), .unk, .unk, .ptr 0 0 0, .unk, .unk, .unk, .ptr 1 0 0, .view a.rb 0 a.i, .unk, .unk, .unk, .unk, .unk, .unk, .unk, .unk, .unk, .unk, .sl false n1 (((List.range n).map (rq le)).map Rq.T), .int .i64 (((List.range n).map (rq le)).map Rq.T).length, .int .i64 a.i]) (fun (a : RS) => hp [(0, ⟨[[.int .i64 0, .int .i64 0, .nsl, .nsl]], 4, 38⟩), (1, ⟨[[.int .i64 0, .int .i64 (1 + 1), .view 12 0 1, .view a.sb 0 (snL le a.i).length]], 4, 38⟩), (12, ⟨[(lkOf le a.i).V (.view a.wb 0 (lkOf le a.i).ws.length)], 5, 46⟩), (a.wb, ⟨(lkOf le a.i).ws.map wtV, 2, 93⟩), (a.sb, ⟨(snL le a.i).map Sn.V, 6, 79⟩), (a.rb, ⟨(anL le a.i).map An.V, 4, 43⟩)]) (fun (a : RS) => a.m) (fun (a : RS) => (2 ≤ a.i ∧ a.i ≤ n) ∧ (12 < a.wb ∧ a.wb < a.m) ∧ (12 < a.sb ∧ a.sb < a.m) ∧ (12 < a.rb ∧ a.rb < a.m) ∧ a.wb ≠ a.sb ∧ a.wb ≠ a.rb ∧ a.sb ≠ a.rb) (fun (a : RS) => n - a.i) ⟨2, 34, 39, 41, 42⟩ ?_ ?_ ?_ ?_ ?_
  · exact ⟨⟨Nat.le_refl _, hn.1⟩, by decide, by decide, by decide, by decide, by decide, by decide⟩
  · (repeat first | exact LE.nil _ | refine LE.unk _ _ ?_ | refine LE.eq _ _ _ rfl ?_)
  · (repeat first | exact lessH0 | (refine lessHc ?_ ?_; (first | (first | ((simp (disch := omega) only [↓app0, ↓appC, ↓updS, ↓updN, ↓hpS, ↓hpN]) <;> first | rfl | assumption) | assumption | rfl) | ((simp (disch := omega) only [↓app0, ↓appC, ↓updS, ↓updN, ↓hpS, ↓hpN]) <;> first | exact congrArg (fun z => some (Blk.mk (z.map wtV) 2 93)) e2 | exact congrArg (fun z => some (Blk.mk (z.map Sn.V) 6 79)) e3 | exact congrArg (fun z => some (Blk.mk z 4 43)) e4 | (rw [e1]; rfl) | (rw [e5])))))
  · exact Nat.le_refl _
  intro ⟨i, wb, sb, rb, m⟩ hI ih
  dsimp only at hI ⊢
  obtain ⟨hi, hwb, hsb, hrb, hx1, hx2, hx3⟩ := hI
  have hkw : (lkOf le i).ws.length = i - 1 := wsOf_length le i
  have hks := snL_length le i
  have e5 : (snL le (i + 1)).length = (snL le i).length + 1 := by rw [snL_length, snL_length]
  have e1 : (lkOf le (i + 1)).ws.length = (lkOf le i).ws.length + 1 := by rw [hkw]; exact (wsOf_length le (i + 1)).trans (by omega)
  have e2 : (lkOf le i).ws ++ [((((snL le i).length : Nat) : Int), le i)] = (lkOf le (i + 1)).ws := by rw [hks]; exact (wsOf_succ le (by omega)).symm
  have e0 : anOf le i = ⟨2, 1, ((0 : Nat) : Int), 0 + le 0⟩ := by unfold anOf; rw [if_neg (by omega)]
  have e3 : snL le i ++ [Sn.mk ((snL le i).length : Nat) 1 ⟨2, (lkOf le i).tk, (lkOf le i).hd, (lkOf le i).ex⟩] = snL le (i + 1) := by rw [snL_succ, hks]; unfold snOf; rw [e0]; rfl
  have e4 : (anL le i).map An.V ++ [[.int .i64 2, .int .i64 (lkOf le i).tk, .int .i64 (lkOf le i).hd, .int .i64 (lkOf le i).ex]] = (anL le (i + 1)).map An.V := by rw [anL_succ, List.map_append, List.map_singleton, e0]; rfl
  refine lStep ?_
  refine wSeq ?_
  refine wRegion ?_
  refine rlt rfl rfl rfl rfl rfl rfl ?_ ?_ <;> intro h7_0
  · refine rNil ?_
    refine qSeq ?_
    refine wSeq ?_
    refine wT rfl ?_
    refine wSkip ?_
    refine qSeq ?_
    refine wSeq ?_
    refine wBlock ?_
    refine wSeq ?_
    refine wRegion ?_
    refine rmI rfl rfl rfl rfl rfl ?_
    (apply rixl rfl rfl rfl rfl; (first | omega | assumption | (focus (simp; omega))); (first | rfl | assumption | (first | exact reqs_get le (by omega) | exact getR zr (by omega))); rfl; rfl; rfl; rfl)
    refine rlir (vs := [.int _ _, .int _ _, .int _ _, .int _ _, .str _]) rfl rfl rfl (Nat.le_of_ble_eq_true rfl) rfl rfl rfl rfl ?_
    refine ral rfl rfl rfl rfl rfl rfl ?_
    refine raI rfl rfl rfl rfl rfl ?_
    (apply rst (u := .agg [.int _ _, .int _ _, .int _ _, .int _ _, .str _]) rfl rfl rfl; (first | ((simp (disch := omega) only [↓app0, ↓appC, ↓updS, ↓updN, ↓hpS, ↓hpN]) <;> first | rfl | assumption) | assumption | rfl); rfl; rfl; rfl; rfl; rfl; (exact Nat.le_of_ble_eq_true rfl); rfl; rfl; rfl)
    refine rNil ?_
    refine qSeq ?_
    refine wDraw [0, 0, 0, 6, 14, 0, 62, 126, 255, 511] rfl (by decide +kernel) ?_
    refine dmV rfl rfl rfl rfl rfl ?_
    refine dmL rfl rfl rfl rfl rfl ?_
    refine dmI rfl rfl rfl rfl rfl ?_
    (apply dixl rfl rfl rfl rfl; (first | omega | assumption | (focus (simp; omega))); (first | rfl | assumption | (first | exact reqs_get le (by omega) | exact getR zr (by omega))); rfl; rfl; rfl; rfl)
    refine dlic (v := .int _ _) rfl rfl rfl rfl rfl rfl rfl rfl ?_
    (apply dlr (vs := [.int _ _, .int _ _, .int _ _, .int _ _, .str _]) rfl rfl; (first | ((simp (disch := omega) only [↓app0, ↓appC, ↓updS, ↓updN, ↓hpS, ↓hpN]) <;> first | rfl | assumption) | assumption | rfl); rfl; rfl; (exact Nat.le_of_ble_eq_true rfl); rfl; rfl; rfl; rfl)
    refine dop (o21c (lkOf le i) 1 (le i) (1 + 1) (snL le i) (by omega) (snL_cl le i) (show ((0 : Nat) : Int) ≠ -1 by decide) (by show ¬ ((0 : Nat) : Int) = _; omega) (show 0 < 0 + le 0 by have := hle 0; omega) (id := 1) (lb := 12) (sb := sb) (wb := wb) (by omega) (by rw [snL_length]; exact wsOf_wix le i) ?_ ?_ ?_ ?_ ?_ ?_ ?_ ?_ ?_ ?_ ?_ ?_ ?_ ?_) rfl rfl (by show [V.ptr 1 0 0, V.int .i64 0, V.agg [.int .i64 ((i : Nat) : Int), .int .i64 1, .int .i64 1, .int .i64 (le i), .str lockNm]] = _; rw [snL_length]; rfl) rfl rfl rfl ?_
    · (first | omega | (first | ((simp (disch := omega) only [↓app0, ↓appC, ↓updS, ↓updN, ↓hpS, ↓hpN]) <;> first | rfl | assumption) | assumption | rfl) | (first | omega | assumption | (focus (simp; omega))))
    · (first | omega | (first | ((simp (disch := omega) only [↓app0, ↓appC, ↓updS, ↓updN, ↓hpS, ↓hpN]) <;> first | rfl | assumption) | assumption | rfl) | (first | omega | assumption | (focus (simp; omega))))
    · (first | omega | (first | ((simp (disch := omega) only [↓app0, ↓appC, ↓updS, ↓updN, ↓hpS, ↓hpN]) <;> first | rfl | assumption) | assumption | rfl) | (first | omega | assumption | (focus (simp; omega))))
    · (first | omega | (first | ((simp (disch := omega) only [↓app0, ↓appC, ↓updS, ↓updN, ↓hpS, ↓hpN]) <;> first | rfl | assumption) | assumption | rfl) | (first | omega | assumption | (focus (simp; omega))))
    · (first | omega | (first | ((simp (disch := omega) only [↓app0, ↓appC, ↓updS, ↓updN, ↓hpS, ↓hpN]) <;> first | rfl | assumption) | assumption | rfl) | (first | omega | assumption | (focus (simp; omega))))
    · (first | omega | (first | ((simp (disch := omega) only [↓app0, ↓appC, ↓updS, ↓updN, ↓hpS, ↓hpN]) <;> first | rfl | assumption) | assumption | rfl) | (first | omega | assumption | (focus (simp; omega))))
    · (first | omega | (first | ((simp (disch := omega) only [↓app0, ↓appC, ↓updS, ↓updN, ↓hpS, ↓hpN]) <;> first | rfl | assumption) | assumption | rfl) | (first | omega | assumption | (focus (simp; omega))))
    · (first | omega | (first | ((simp (disch := omega) only [↓app0, ↓appC, ↓updS, ↓updN, ↓hpS, ↓hpN]) <;> first | rfl | assumption) | assumption | rfl) | (first | omega | assumption | (focus (simp; omega))))
    · (first | omega | (first | ((simp (disch := omega) only [↓app0, ↓appC, ↓updS, ↓updN, ↓hpS, ↓hpN]) <;> first | rfl | assumption) | assumption | rfl) | (first | omega | assumption | (focus (simp; omega))))
    · (first | omega | (first | ((simp (disch := omega) only [↓app0, ↓appC, ↓updS, ↓updN, ↓hpS, ↓hpN]) <;> first | rfl | assumption) | assumption | rfl) | (first | omega | assumption | (focus (simp; omega))))
    · (first | omega | (first | ((simp (disch := omega) only [↓app0, ↓appC, ↓updS, ↓updN, ↓hpS, ↓hpN]) <;> first | rfl | assumption) | assumption | rfl) | (first | omega | assumption | (focus (simp; omega))))
    · (first | omega | (first | ((simp (disch := omega) only [↓app0, ↓appC, ↓updS, ↓updN, ↓hpS, ↓hpN]) <;> first | rfl | assumption) | assumption | rfl) | (first | omega | assumption | (focus (simp; omega))))
    · (first | omega | (first | ((simp (disch := omega) only [↓app0, ↓appC, ↓updS, ↓updN, ↓hpS, ↓hpN]) <;> first | rfl | assumption) | assumption | rfl) | (first | omega | assumption | (focus (simp; omega))))
    · (first | omega | (first | ((simp (disch := omega) only [↓app0, ↓appC, ↓updS, ↓updN, ↓hpS, ↓hpN]) <;> first | rfl | assumption) | assumption | rfl) | (first | omega | assumption | (focus (simp; omega))))
    refine dbs (es := [[.int _ _, .int _ _, .int _ _, .int _ _]]) rfl rfl rfl rfl (Nat.succ_ne_zero _) (Nat.le_of_ble_eq_true rfl) rfl rfl rfl rfl rfl ?_
    (apply dap (s' := 32) (es := [[.int _ _, .int _ _, .int _ _, .int _ _]]) rfl rfl; (first | ((simp (disch := omega) only [↓app0, ↓appC, ↓updS, ↓updN, ↓hpS, ↓hpN]) <;> first | rfl | assumption) | assumption | rfl); rfl; rfl; (first | rfl | (show 0 + i = ((anL le i).map An.V).length; rw [List.length_map, anL_length]; omega)); rfl; rfl; exact (Nat.succ_ne_zero _); (first | rfl | (apply srcView rfl; (first | ((simp (disch := omega) only [↓app0, ↓appC, ↓updS, ↓updN, ↓hpS, ↓hpN]) <;> first | rfl | assumption) | assumption | rfl); (first | exact Nat.le_refl _ | omega); rfl)); (first | rfl | assumption | (focus (simp; done)) | (intro _ _; simp_all)); (first | omega | (focus (simp only [List.length_cons, List.length_nil]; omega)) | exact Nat.le_of_ble_eq_true rfl | ((show (_ + 1) * _ ≤ _); omega) | ((show _ + 1 ≤ _); omega)); (first | omega | (focus (simp only [List.length_cons, List.length_nil]; omega)) | exact Nat.le_of_ble_eq_true rfl | ((show (_ + 1) * _ ≤ _); omega) | ((show _ + 1 ≤ _); omega)); rfl; rfl; rfl)
    refine daV rfl rfl rfl rfl rfl ?_
    refine dNilR 10 [0, 3, 3, 3, 1, 0, 0, 0, 0, 0] [] rfl rfl (by decide +kernel) trivial ?_
    refine qBlock ?_
    refine qSeq ?_
    refine wRegion ?_
    refine raddF rfl rfl rfl ?_ ?_ rfl rfl rfl ?_
    · (first | omega | assumption | (focus (simp; omega)))
    · (first | omega | assumption | (focus (simp; omega)))
    refine rmI rfl rfl rfl rfl rfl ?_
    refine rNil ?_
    refine qLoop ?_
    exact wlH (ih ⟨i + 1, m + 1 + 10 + (lkOf le i).ws.length + 1, m + 1 + 13 + (lkOf le i).ws.length + 3, m + 1 + 13 + (lkOf le i).ws.length + 4 + 1, m + 1 + 13 + (lkOf le i).ws.length + 4 + 1 + 1⟩ ⟨⟨by dsimp only; omega, by dsimp only; omega⟩, by dsimp only; omega, by dsimp only; omega, by dsimp only; omega, by dsimp only; omega, by dsimp only; omega, by dsimp only; omega⟩ (by dsimp only; omega)) (by (repeat first | exact LE.nil _ | refine LE.unk _ _ ?_ | refine LE.eq _ _ _ rfl ?_)) (by dsimp only; (repeat first | exact lessH0 | (refine lessHc ?_ ?_; (first | (first | ((simp (disch := omega) only [↓app0, ↓appC, ↓updS, ↓updN, ↓hpS, ↓hpN]) <;> first | rfl | assumption) | assumption | rfl) | ((simp (disch := omega) only [↓app0, ↓appC, ↓updS, ↓updN, ↓hpS, ↓hpN]) <;> first | exact congrArg (fun z => some (Blk.mk (z.map wtV) 2 93)) e2 | exact congrArg (fun z => some (Blk.mk (z.map Sn.V) 6 79)) e3 | exact congrArg (fun z => some (Blk.mk z 4 43)) e4 | (rw [e1]; rfl) | (rw [e5])))))) (Nat.le_refl _)
  · refine rNil ?_
    refine qSeq ?_
    refine wSeq ?_
    refine wF rfl ?_
    refine wExit ?_
    refine qSeqX ?_
    refine qLoopX ?_
    refine qBlockX ?_
    refine qSeq ?_
    refine wSeq ?_
    refine wRegion ?_
    (apply rlr (vs := [.int _ _, .int _ _, _, _]) rfl rfl; (first | ((simp (disch := omega) only [↓app0, ↓appC, ↓updS, ↓updN, ↓hpS, ↓hpN]) <;> first | rfl | assumption) | assumption | rfl); rfl; rfl; (exact Nat.le_of_ble_eq_true rfl); rfl; rfl; rfl; rfl)
    refine rmV rfl rfl rfl rfl rfl ?_
    (apply rst (u := .agg [.int _ _, .int _ _, _, _]) rfl rfl rfl; (first | ((simp (disch := omega) only [↓app0, ↓appC, ↓updS, ↓updN, ↓hpS, ↓hpN]) <;> first | rfl | assumption) | assumption | rfl); rfl; rfl; rfl; rfl; rfl; (exact Nat.le_of_ble_eq_true rfl); rfl; rfl; rfl)
    refine raV rfl rfl rfl rfl rfl ?_
    refine raI rfl rfl rfl rfl rfl ?_
    refine rNil ?_
    refine qSeq ?_
    refine wRet ?_
    obtain rfl : i = n := by omega
    apply finS [12, wb, sb, rb]
    · exact (resL_cons (resV_row rfl (by (first | ((simp (disch := omega) only [↓app0, ↓appC, ↓updS, ↓updN, ↓hpS, ↓hpN]) <;> first | rfl | assumption) | assumption | rfl)) rfl rfl (Nat.le_of_ble_eq_true rfl) rfl) (resL_cons rfl (resL_cons rfl resL_nil)))
    · exact SnapL.cons _ _ _ _ (SnapC.agg (.cons _ _ _ _ (.int _ _) (.cons _ _ _ _ (.int _ _) (.cons _ _ _ _ (snapLk (wb := wb) (lkOf le i) (by simp) (by simp) (by (first | ((simp (disch := omega) only [↓app0, ↓appC, ↓updS, ↓updN, ↓hpS, ↓hpN]) <;> first | rfl | assumption) | assumption | rfl)) (by (first | ((simp (disch := omega) only [↓app0, ↓appC, ↓updS, ↓updN, ↓hpS, ↓hpN]) <;> first | rfl | assumption) | assumption | rfl))) (.cons _ _ _ _ (snapView (b := ⟨(snL le i).map Sn.V, 6, 79⟩) ((snL le i).map Sn.T) (by simp) (by (first | ((simp (disch := omega) only [↓app0, ↓appC, ↓updS, ↓updN, ↓hpS, ↓hpN]) <;> first | rfl | assumption) | assumption | rfl)) (rowsSn2 _).symm (by simp)) .nil))))) (SnapL.cons _ _ _ _ (.one _ _ (snapView (b := ⟨(anL le i).map An.V, 4, 43⟩) ((anL le i).map An.T) (by simp) (by (first | ((simp (disch := omega) only [↓app0, ↓appC, ↓updS, ↓updN, ↓hpS, ↓hpN]) <;> first | rfl | assumption) | assumption | rfl)) (rowsAn2 _).symm (by rw [List.length_map, anL_length]))) (SnapL.cons _ _ _ _ (.one _ _ (.int _ _)) SnapL.nil))

end Go.Proofs.Ytnkpjlpappmccaa
