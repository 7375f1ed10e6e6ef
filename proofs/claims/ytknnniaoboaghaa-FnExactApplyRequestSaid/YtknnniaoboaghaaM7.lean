import Derived.Test.YtknnniaoboaghaaM6
namespace Go.Proofs.Ytknnniaoboaghaa
open Go.V
set_option linter.unusedVariables false
set_option linter.unusedSimpArgs false
set_option maxRecDepth 20000
set_option maxHeartbeats 4000000
def mkG {α : Type} (f : α → List V) (z : List V) (L : List α) (i : Nat) : List (List V) := (L.take i).map f ++ List.replicate (L.length - i) z
theorem mkG_zero {α : Type} (f : α → List V) (z : List V) (L : List α) : mkG f z L 0 = List.replicate L.length z := by simp [mkG]
theorem mkG_full {α : Type} (f : α → List V) (z : List V) (L : List α) : mkG f z L L.length = L.map f := by simp [mkG]
theorem mkG_get {α : Type} (f : α → List V) (z : List V) {L : List α} {i : Nat} (h : i < L.length) : (mkG f z L i)[0 + i]? = some z := by
 have e : ((L.take i).map f).length = i := by simp; omega
 unfold mkG
 rw [Nat.zero_add, List.getElem?_append_right (by omega), e, Nat.sub_self, List.getElem?_replicate, if_pos (by omega)]
theorem mkG_set {α : Type} (f : α → List V) (z : List V) (d : α) {L : List α} {i : Nat} (h : i < L.length) : (mkG f z L i).set (0 + i) (f (L.getD i d)) = mkG f z L (i + 1) := by
 have e : ((L.take i).map f).length = i := by simp; omega
 unfold mkG
 rw [Nat.zero_add, List.set_append_right _ _ (by omega), e, Nat.sub_self]
 have e2 : L.length - i = (L.length - (i + 1)) + 1 := by omega
 rw [e2, List.replicate_succ, List.set_cons_zero]
 have e3 : L.take (i + 1) = L.take i ++ [L.getD i d] := by
  rw [List.take_add_one]; simp [h]
 rw [e3, List.map_append, List.append_assoc]
 rfl
theorem mkG_getR (f : Nat → List V) (z : List V) {m i : Nat} (h : i < m) : (mkG f z (List.range m) i)[0 + i]? = some z := mkG_get f z (by rw [List.length_range]; exact h)
theorem mkG_setR (f : Nat → List V) (z : List V) {m i : Nat} (h : i < m) : (mkG f z (List.range m) i).set (0 + i) (f i) = mkG f z (List.range m) (i + 1) := by
 have e := mkG_set f z 0 (L := List.range m) (i := i) (by rw [List.length_range]; exact h)
 rwa [show (List.range m).getD i 0 = i from by simp [List.getD_eq_getElem?_getD, h]] at e
theorem mkG_zeroR (f : Nat → List V) (z : List V) (m : Nat) : mkG f z (List.range m) 0 = List.replicate m z := by rw [mkG_zero, List.length_range]
theorem mkG_fullR (f : Nat → List V) (z : List V) (m : Nat) : mkG f z (List.range m) m = (List.range m).map f := by
 have e := mkG_full f z (List.range m)
 rwa [List.length_range] at e
theorem famA {w : Nat → Nat} {F : Nat → Option Blk} {n : Nat} {wr : List (Nat × Option Blk)} {h : Heap} {i : Nat} (inj : ∀ i j, i < n → j < n → w i = w j → i = j) (hi : i < n) : app (wr ++ famL w F n) h (w i) = F i := by
 rw [app_append]; exact famI inj hi
theorem famAO {w : Nat → Nat} {F : Nat → Option Blk} {n : Nat} {wr : List (Nat × Option Blk)} {h : Heap} {id : Nat} (ho : ∀ i, i < n → w i ≠ id) : app (wr ++ famL w F n) h id = app wr h id := by
 rw [app_append]; exact famO ho
def Sn.V (s : Sn) : List V := [.int .i64 s.cl, .int .i64 s.st, .int .i64 s.an.kd, .int .i64 s.an.tk, .int .i64 s.an.hd, .int .i64 s.an.ex]
def rwV (w : Nat → Nat) (L : List Lk) (i : Nat) : List V := (L.getD i Lk0).V (.view (w i) 0 (L.getD i Lk0).ws.length)
def lkR (w : Nat → Nat) (L : List Lk) : List (List V) := (List.range L.length).map (rwV w L)
def wsF (L : List Lk) (i : Nat) : Option Blk := some ⟨(L.getD i Lk0).ws.map wtV, 2, 123⟩
def zL : List V := [.str ⟨#[]⟩, .int .i64 0, .int .i64 0, .int .i64 0, .nsl]
theorem lkR_len (w : Nat → Nat) (L : List Lk) : (lkR w L).length = L.length := by simp [lkR]
theorem lkR_get (w : Nat → Nat) (L : List Lk) {i : Nat} (h : i < L.length) : (lkR w L)[i]? = some (rwV w L i) := by simp [lkR, h]
theorem rowsSnV (fr : Bool) (L : List Sn) : ((L.map Sn.T).map fun r => r.map (T.toV fr)) = L.map Sn.V := by
 rw [List.map_map]; rfl
theorem lenSnF (fr : Bool) (L : List Sn) : ∀ c ∈ (L.map Sn.T).map (fun r => r.map (T.toV fr)), c.length = 6 := by
 rw [rowsSnV]; intro c hc; obtain ⟨r, hr, rfl⟩ := List.mem_map.1 hc; rfl
theorem rowsWtV (fr : Bool) (L : List Wt) : ((L.map wtT).map fun r => r.map (T.toV fr)) = L.map wtV := by
 rw [List.map_map]; rfl
theorem lenWtF (fr : Bool) (L : List Wt) : ∀ c ∈ (L.map wtT).map (fun r => r.map (T.toV fr)), c.length = 2 := by
 rw [rowsWtV]; intro c hc; obtain ⟨r, hr, rfl⟩ := List.mem_map.1 hc; rfl
theorem snapWs {h : Heap} {ids : List Nat} {r : Bool} {id m : Nat} {L : List Wt} (hid : id ∈ ids) (hb : h id = some ⟨L.map wtV, 2, 123⟩) (hm : m = L.length) : Snap h ids r (.view id 0 m) (.sl true (L.map wtT)) :=
 snapView (L.map wtT) hid hb (rowsWtV true L).symm (by rw [List.length_map]; exact hm)
theorem snapSn {h : Heap} {ids : List Nat} {r : Bool} {id m : Nat} {L : List Sn} (hid : id ∈ ids) (hb : h id = some ⟨L.map Sn.V, 6, 115⟩) (hm : m = L.length) : Snap h ids r (.view id 0 m) (.sl true (L.map Sn.T)) :=
 snapView (L.map Sn.T) hid hb (rowsSnV true L).symm (by rw [List.length_map]; exact hm)
theorem snapLk {h : Heap} {ids : List Nat} {r : Bool} {id m : Nat} {w : Nat → Nat} {L : List Lk} (hid : id ∈ ids) (hb : h id = some ⟨lkR w L, 5, 29⟩) (hm : m = L.length)
  (hw : ∀ i, i < L.length → w i ∈ ids) (hf : ∀ i, i < L.length → h (w i) = wsF L i) : Snap h ids r (.view id 0 m) (.sl true (L.map (Lk.T true))) := by
 subst hm
 have e : ((lkR w L).drop 0).take L.length = lkR w L := by rw [List.drop_zero, List.take_of_length_le (by rw [lkR_len]; exact Nat.le_refl _)]
 have e2 : ∀ i, i < L.length → (L.map (Lk.T true))[i]? = some ((L.getD i Lk0).T true) := fun i h => getMap (Lk.T true) Lk0 h
 refine .view id 0 _ _ _ hid hb (by dsimp only; rw [lkR_len]; omega) (by simp) (fun i x y h1 h2 => ?_) (fun i j x y h1 h2 => ?_)
 ·dsimp only at h1
  rw [e] at h1
  have hi : i < L.length := by have := (List.getElem?_eq_some_iff.1 h1).1; rw [lkR_len] at this; exact this
  rw [lkR_get w L hi] at h1; rw [e2 i hi] at h2
  cases h1; cases h2; rfl
 ·dsimp only at h1
  rw [e] at h1
  unfold get2 at h1 h2
  by_cases hi : i < L.length
  ·rw [lkR_get w L hi] at h1; rw [e2 i hi] at h2
   match j with
   | 0 => cases h1; cases h2; exact .str _
   | 1 => cases h1; cases h2; exact .int _ _
   | 2 => cases h1; cases h2; exact .int _ _
   | 3 => cases h1; cases h2; exact .int _ _
   | 4 => cases h1; cases h2; exact snapWs (hw i hi) (hf i hi) rfl
   | j + 5 => exact absurd h1 nofun
  ·rw [show (lkR w L)[i]? = none from List.getElem?_eq_none (by rw [lkR_len]; omega)] at h1; exact absurd h1 nofun
theorem snapTb {h : Heap} {ids : List Nat} {r : Bool} {lb sb m1 m2 : Nat} {w : Nat → Nat} {t : Tb} (hl : lb ∈ ids) (hs : sb ∈ ids) (hw : ∀ i, i < t.lk.length → w i ∈ ids)
  (k1 : h lb = some ⟨lkR w t.lk, 5, 29⟩) (kf : ∀ i, i < t.lk.length → h (w i) = wsF t.lk i) (k2 : h sb = some ⟨t.sn.map Sn.V, 6, 115⟩) (e1 : m1 = t.lk.length) (e2 : m2 = t.sn.length) :
  SnapA h ids r (.agg [.int .i64 t.tm, .int .i64 t.nx, .view lb 0 m1, .view sb 0 m2]) (.agg (t.T true true true)) :=
 SnapC.agg (.cons _ _ _ _ (.int _ _) (.cons _ _ _ _ (.int _ _) (.cons _ _ _ _ (snapLk hl k1 e1 hw kf) (.cons _ _ _ _ (snapSn hs k2 e2) .nil))))
theorem s143 (a : Wt) : Pure En 143 [.agg (wtT a)] [.agg (wtT a)] := by
 refine Pure.of_wp Try.func143 rfl (Nat.le_of_ble_eq_true rfl) ?_
 refine wSeq (wRegion (rbx (u := .agg [.int _ _, .int _ _]) rfl rfl rfl rfl rfl rfl rfl (ral rfl rfl rfl rfl rfl rfl (rNil (qSeq (wSeq (wRegion (ral rfl rfl rfl rfl rfl rfl (rNil (qSeq (wSeq (wRegion ?_))))))))))))
 refine rfa (off := 0) (s := 1) (r := false) rfl rfl rfl (Nat.succ_ne_zero _) rfl rfl rfl ?_
 (apply rlc (v := .int _ _) rfl rfl; exact Q0; rfl; rfl; rfl; rfl; rfl; rfl)
 refine rfa (off := 0) (s := 1) (r := false) rfl rfl rfl (Nat.succ_ne_zero _) rfl rfl rfl ?_
 (apply rst (u := .int _ _) rfl rfl rfl; exact Q0; rfl; rfl; rfl; rfl; rfl; (exact Nat.le_of_ble_eq_true rfl); rfl; rfl; rfl)
 refine rNil (qSeq (wSeq (wRegion (rfa (off := 1) (s := 1) (r := false) rfl rfl rfl (Nat.succ_ne_zero _) rfl rfl rfl ?_))))
 (apply rlc (v := .int _ _) rfl rfl; exact Q0; rfl; rfl; rfl; rfl; rfl; rfl)
 refine rfa (off := 1) (s := 1) (r := false) rfl rfl rfl (Nat.succ_ne_zero _) rfl rfl rfl ?_
 (apply rst (u := .int _ _) rfl rfl rfl; exact Q0; rfl; rfl; rfl; rfl; rfl; (exact Nat.le_of_ble_eq_true rfl); rfl; rfl; rfl)
 refine rNil (qSeq (wSeq (wRegion ?_)))
 (apply rlr (vs := [.int _ _, .int _ _]) rfl rfl; exact Q0; rfl; rfl; (exact Nat.le_of_ble_eq_true rfl); rfl; rfl; rfl; rfl)
 (apply rst (u := .agg [.int _ _, .int _ _]) rfl rfl rfl; exact Q0; rfl; rfl; rfl; rfl; rfl; (exact Nat.le_of_ble_eq_true rfl); rfl; rfl; rfl)
 refine rNil (qSeq (wRet ?_))
 exact fin (resL_cons (resV_row rfl (by exact Q0) rfl rfl (Nat.le_of_ble_eq_true rfl) rfl) resL_nil) rfl
theorem s121 (a : An) : Pure En 121 [.agg a.T] [.agg a.T] := by
 refine Pure.of_wp Try.func121 rfl (Nat.le_of_ble_eq_true rfl) ?_
 refine wSeq (wRegion (rbx (u := .agg [.int _ _, .int _ _, .int _ _, .int _ _]) rfl rfl rfl rfl rfl rfl rfl (ral rfl rfl rfl rfl rfl rfl (rNil (qSeq (wSeq (wRegion (ral rfl rfl rfl rfl rfl rfl (rNil (qSeq (wSeq (wRegion ?_))))))))))))
 refine rfa (off := 0) (s := 1) (r := false) rfl rfl rfl (Nat.succ_ne_zero _) rfl rfl rfl ?_
 (apply rlc (v := .int _ _) rfl rfl; exact Q0; rfl; rfl; rfl; rfl; rfl; rfl)
 refine rfa (off := 0) (s := 1) (r := false) rfl rfl rfl (Nat.succ_ne_zero _) rfl rfl rfl ?_
 (apply rst (u := .int _ _) rfl rfl rfl; exact Q0; rfl; rfl; rfl; rfl; rfl; (exact Nat.le_of_ble_eq_true rfl); rfl; rfl; rfl)
 refine rNil (qSeq (wSeq (wRegion (rfa (off := 1) (s := 1) (r := false) rfl rfl rfl (Nat.succ_ne_zero _) rfl rfl rfl ?_))))
 (apply rlc (v := .int _ _) rfl rfl; exact Q0; rfl; rfl; rfl; rfl; rfl; rfl)
 refine rfa (off := 1) (s := 1) (r := false) rfl rfl rfl (Nat.succ_ne_zero _) rfl rfl rfl ?_
 (apply rst (u := .int _ _) rfl rfl rfl; exact Q0; rfl; rfl; rfl; rfl; rfl; (exact Nat.le_of_ble_eq_true rfl); rfl; rfl; rfl)
 refine rNil (qSeq (wSeq (wRegion (rfa (off := 2) (s := 1) (r := false) rfl rfl rfl (Nat.succ_ne_zero _) rfl rfl rfl ?_))))
 (apply rlc (v := .int _ _) rfl rfl; exact Q0; rfl; rfl; rfl; rfl; rfl; rfl)
 refine rfa (off := 2) (s := 1) (r := false) rfl rfl rfl (Nat.succ_ne_zero _) rfl rfl rfl ?_
 (apply rst (u := .int _ _) rfl rfl rfl; exact Q0; rfl; rfl; rfl; rfl; rfl; (exact Nat.le_of_ble_eq_true rfl); rfl; rfl; rfl)
 refine rNil (qSeq (wSeq (wRegion (rfa (off := 3) (s := 1) (r := false) rfl rfl rfl (Nat.succ_ne_zero _) rfl rfl rfl ?_))))
 (apply rlc (v := .int _ _) rfl rfl; exact Q0; rfl; rfl; rfl; rfl; rfl; rfl)
 refine rfa (off := 3) (s := 1) (r := false) rfl rfl rfl (Nat.succ_ne_zero _) rfl rfl rfl ?_
 (apply rst (u := .int _ _) rfl rfl rfl; exact Q0; rfl; rfl; rfl; rfl; rfl; (exact Nat.le_of_ble_eq_true rfl); rfl; rfl; rfl)
 refine rNil (qSeq (wSeq (wRegion ?_)))
 (apply rlr (vs := [.int _ _, .int _ _, .int _ _, .int _ _]) rfl rfl; exact Q0; rfl; rfl; (exact Nat.le_of_ble_eq_true rfl); rfl; rfl; rfl; rfl)
 (apply rst (u := .agg [.int _ _, .int _ _, .int _ _, .int _ _]) rfl rfl rfl; exact Q0; rfl; rfl; rfl; rfl; rfl; (exact Nat.le_of_ble_eq_true rfl); rfl; rfl; rfl)
 refine rNil (qSeq (wRet ?_))
 exact fin (resL_cons (resV_row rfl (by exact Q0) rfl rfl (Nat.le_of_ble_eq_true rfl) rfl) resL_nil) rfl
theorem s84 (s : Sn) : Pure En 84 [.agg s.T] [.agg s.T] := by
 refine Pure.of_wp Try.func84 rfl (Nat.le_of_ble_eq_true rfl) ?_
 refine wSeq (wRegion (rbx (u := .agg [.int _ _, .int _ _, .int _ _, .int _ _, .int _ _, .int _ _]) rfl rfl rfl rfl rfl rfl rfl (ral rfl rfl rfl rfl rfl rfl (rNil (qSeq (wSeq (wRegion (ral rfl rfl rfl rfl rfl rfl (rNil (qSeq (wSeq (wRegion ?_))))))))))))
 refine rfa (off := 0) (s := 1) (r := false) rfl rfl rfl (Nat.succ_ne_zero _) rfl rfl rfl ?_
 (apply rlc (v := .int _ _) rfl rfl; exact Q0; rfl; rfl; rfl; rfl; rfl; rfl)
 refine rfa (off := 0) (s := 1) (r := false) rfl rfl rfl (Nat.succ_ne_zero _) rfl rfl rfl ?_
 (apply rst (u := .int _ _) rfl rfl rfl; exact Q0; rfl; rfl; rfl; rfl; rfl; (exact Nat.le_of_ble_eq_true rfl); rfl; rfl; rfl)
 refine rNil (qSeq (wSeq (wRegion (rfa (off := 1) (s := 1) (r := false) rfl rfl rfl (Nat.succ_ne_zero _) rfl rfl rfl ?_))))
 (apply rlc (v := .int _ _) rfl rfl; exact Q0; rfl; rfl; rfl; rfl; rfl; rfl)
 refine rfa (off := 1) (s := 1) (r := false) rfl rfl rfl (Nat.succ_ne_zero _) rfl rfl rfl ?_
 (apply rst (u := .int _ _) rfl rfl rfl; exact Q0; rfl; rfl; rfl; rfl; rfl; (exact Nat.le_of_ble_eq_true rfl); rfl; rfl; rfl)
 refine rNil (qSeq (wSeq (wRegion (rfa (off := 2) (s := 4) (r := true) rfl rfl rfl (Nat.succ_ne_zero _) rfl rfl rfl ?_))))
 (apply rlr (vs := [.int _ _, .int _ _, .int _ _, .int _ _]) rfl rfl; exact Q0; rfl; rfl; (exact Nat.le_of_ble_eq_true rfl); rfl; rfl; rfl; rfl)
 refine rcl (s121 s.an) rfl rfl rfl rfl rfl rfl (rfa (off := 2) (s := 4) (r := true) rfl rfl rfl (Nat.succ_ne_zero _) rfl rfl rfl ?_)
 (apply rst (u := .agg [.int _ _, .int _ _, .int _ _, .int _ _]) rfl rfl rfl; exact Q0; rfl; rfl; rfl; rfl; rfl; (exact Nat.le_of_ble_eq_true rfl); rfl; rfl; rfl)
 refine rNil (qSeq (wSeq (wRegion ?_)))
 (apply rlr (vs := [.int _ _, .int _ _, .int _ _, .int _ _, .int _ _, .int _ _]) rfl rfl; exact Q0; rfl; rfl; (exact Nat.le_of_ble_eq_true rfl); rfl; rfl; rfl; rfl)
 (apply rst (u := .agg [.int _ _, .int _ _, .int _ _, .int _ _, .int _ _, .int _ _]) rfl rfl rfl; exact Q0; rfl; rfl; rfl; rfl; rfl; (exact Nat.le_of_ble_eq_true rfl); rfl; rfl; rfl)
 refine rNil (qSeq (wRet ?_))
 exact fin (resL_cons (resV_row rfl (by exact Q0) rfl rfl (Nat.le_of_ble_eq_true rfl) rfl) resL_nil) rfl
theorem o120 (fr nn : Bool) (L : List Wt) (hL : L.length ≤ 1048576) {h : Heap} {n : Nat} : V.Open En 120 [.sl fr nn (L.map wtT)] h n (.view n 0 L.length) [(n, some ⟨L.map wtV, 2, 123⟩)] (n + 1) := by
 have hl : (L.map wtT).length = L.length := List.length_map ..
 refine V.Open.fresh rfl (Nat.le_succ _) fun hz => ?_
 refine V.Open.of_wp Try.func120 rfl (Nat.le_of_ble_eq_true rfl) ?_
 refine wSeq (wRegion (raN rfl rfl rfl rfl rfl (rNil (qSeq (wSeq (wRegion (rmL rfl rfl rfl rfl rfl (rll rfl rfl rfl rfl rfl rfl (rmk (s' := 16) rfl rfl rfl rfl rfl rfl (Nat.succ_ne_zero _) ?_ ?_ rfl rfl rfl ?_)))))))))
 ·exact Q5
 ·exact Q5
 refine raV rfl rfl rfl rfl rfl (rNil (qSeq (wSeq (wSeq (wRegion (raI rfl rfl rfl rfl rfl (rNil (qSeq (wBlock (wLoop ?_))))))))))
 refine loopGo (fun (i : Nat) => [.sl fr nn (L.map wtT), .unk, .unk, .view n 0 (L.map wtT).length, .int .i64 i]) (fun (i : Nat) => app [(n, some ⟨mkG wtV [.int .i64 0, .int .i64 0] L i, 2, 123⟩)] h) (fun (i : Nat) => n + 1) (fun (i : Nat) => i ≤ L.length) (fun (i : Nat) => L.length - i) 0 ?_ ?_ ?_ ?_ ?_
 ·exact Nat.zero_le _
 ·(repeat first | exact LE.nil _ | refine LE.unk _ _ ?_ | refine LE.eq _ _ _ rfl ?_)
 ·refine lessApp (n := n) hz (fun jx hj => ?_) (fun jx hl hn => ?_)
  ·simp only [List.map_cons, List.map_nil, List.mem_cons, List.not_mem_nil, or_false] at hj
   rcases hj with rfl <;> (simp (disch := omega) only [↓app0, ↓appC, ↓updS, ↓updN, ↓hpS, ↓hpN]) <;> first | rfl | assumption | exact congrArg (fun z => some (Blk.mk z 2 123)) (by rw [mkG_zero, ← hl]; rfl)
  ·simp only [List.map_cons, List.map_nil, List.mem_cons, List.not_mem_nil, or_false, not_or] at hn
   (simp (disch := omega) only [↓app0, ↓appC, ↓updS, ↓updN, ↓hpS, ↓hpN])
 ·exact Nat.le_refl _
 intro i hI ih
 refine lStep (wSeq (wSeq (wRegion (rmI rfl rfl rfl rfl rfl (rmL rfl rfl rfl rfl rfl (rll rfl rfl rfl rfl rfl rfl ?_))))))
 refine rlt rfl rfl rfl rfl rfl rfl ?_ ?_ <;> intro h3_3
 ·refine rNil (qSeq (wT rfl (wSkip (qSeq (wSeq (wBlock (wRegion (rmV rfl rfl rfl rfl rfl (rmI rfl rfl rfl rfl rfl (rmL rfl rfl rfl rfl rfl (rmI rfl rfl rfl rfl rfl ?_)))))))))))
  (apply rixl rfl rfl rfl rfl; exact Q5; (first | rfl | assumption | (exact getMap wtT (0, 0) (by omega))); rfl; rfl; rfl; rfl)
  refine rlir (vs := [.int _ _, .int _ _]) rfl rfl rfl (Nat.le_of_ble_eq_true rfl) rfl rfl rfl rfl (rcl (s143 (L.getD i (0, 0))) rfl rfl rfl rfl rfl rfl ?_)
  (apply rixv rfl rfl rfl rfl; exact Q0; rfl; exact Q5; exact Q5; rfl; rfl; rfl)
  (apply rst rfl rfl rfl; exact Q0; exact mkG_get wtV [.int .i64 0, .int .i64 0] (by omega); rfl; rfl; rfl; rfl; (exact Nat.le_of_ble_eq_true rfl); rfl; rfl; rfl)
  refine rNil (qBlock (qSeq (wRegion (rmI rfl rfl rfl rfl rfl (raddF rfl rfl rfl ?_ ?_ rfl rfl rfl ?_)))))
  ·exact Q5
  ·exact Q5
  refine raI rfl rfl rfl rfl rfl (rNil (qLoop ?_))
  exact wlH (ih (i + 1) (by omega) (by omega)) (by (repeat first | exact LE.nil _ | refine LE.unk _ _ ?_ | refine LE.eq _ _ _ rfl ?_)) (by
   refine lessApp (n := n) hz (fun jx hj => ?_) (fun jx hl hn => ?_)
   ·simp only [List.map_cons, List.map_nil, List.mem_cons, List.not_mem_nil, or_false] at hj
    rcases hj with rfl <;> (simp (disch := omega) only [↓app0, ↓appC, ↓updS, ↓updN, ↓hpS, ↓hpN]) <;> first | rfl | assumption | exact congrArg (fun z => some (Blk.mk z 2 123)) (mkG_set wtV [.int .i64 0, .int .i64 0] (0, 0) (by omega))
   ·simp only [List.map_cons, List.map_nil, List.mem_cons, List.not_mem_nil, or_false, not_or] at hn
    (simp (disch := omega) only [↓app0, ↓appC, ↓updS, ↓updN, ↓hpS, ↓hpN])) (Nat.le_refl _)
 ·refine rNil (qSeq (wF rfl (wExit (qSeqX (qLoopX (qBlockX (qSeq (wSeq (wRegion (rmV rfl rfl rfl rfl rfl (raV rfl rfl rfl rfl rfl (rNil ?_))))))))))))
  refine qSeq (wRet ?_)
  obtain rfl : i = L.length := by omega
  exact finO rfl (congrArg (V.view n 0) hl) (leWr (by
   intro j hj
   simp only [List.map_cons, List.map_nil, List.mem_cons, List.not_mem_nil, or_false] at hj
   rcases hj with rfl <;> (simp (disch := omega) only [↓app0, ↓appC, ↓updS, ↓updN, ↓hpS, ↓hpN]) <;> first | rfl | (exact congrArg (fun z => some (Blk.mk z 2 123)) (mkG_full wtV [.int .i64 0, .int .i64 0] L))) (fun j hj hn => by
   simp only [List.map_cons, List.map_nil, List.mem_cons, List.not_mem_nil, or_false, not_or] at hn
   (simp (disch := omega) only [↓app0, ↓appC, ↓updS, ↓updN, ↓hpS, ↓hpN]) <;> rfl)) (Nat.le_refl _)
theorem o46 (fr nn : Bool) (L : List Sn) (hL : L.length ≤ 1048576) {h : Heap} {n : Nat} : V.Open En 46 [.sl fr nn (L.map Sn.T)] h n (.view n 0 L.length) [(n, some ⟨L.map Sn.V, 6, 115⟩)] (n + 1) := by
 have hl : (L.map Sn.T).length = L.length := List.length_map ..
 refine V.Open.fresh rfl (Nat.le_succ _) fun hz => ?_
 refine V.Open.of_wp Try.func46 rfl (Nat.le_of_ble_eq_true rfl) ?_
 refine wSeq (wRegion (raN rfl rfl rfl rfl rfl (rNil (qSeq (wSeq (wRegion (rmL rfl rfl rfl rfl rfl (rll rfl rfl rfl rfl rfl rfl (rmk (s' := 48) rfl rfl rfl rfl rfl rfl (Nat.succ_ne_zero _) ?_ ?_ rfl rfl rfl ?_)))))))))
 ·exact Q5
 ·exact Q5
 refine raV rfl rfl rfl rfl rfl (rNil (qSeq (wSeq (wSeq (wRegion (raI rfl rfl rfl rfl rfl (rNil (qSeq (wBlock (wLoop ?_))))))))))
 refine loopGo (fun (i : Nat) => [.sl fr nn (L.map Sn.T), .unk, .unk, .view n 0 (L.map Sn.T).length, .int .i64 i]) (fun (i : Nat) => app [(n, some ⟨mkG Sn.V [.int .i64 0, .int .i64 0, .int .i64 0, .int .i64 0, .int .i64 0, .int .i64 0] L i, 6, 115⟩)] h) (fun (i : Nat) => n + 1) (fun (i : Nat) => i ≤ L.length) (fun (i : Nat) => L.length - i) 0 ?_ ?_ ?_ ?_ ?_
 ·exact Nat.zero_le _
 ·(repeat first | exact LE.nil _ | refine LE.unk _ _ ?_ | refine LE.eq _ _ _ rfl ?_)
 ·refine lessApp (n := n) hz (fun jx hj => ?_) (fun jx hl hn => ?_)
  ·simp only [List.map_cons, List.map_nil, List.mem_cons, List.not_mem_nil, or_false] at hj
   rcases hj with rfl <;> (simp (disch := omega) only [↓app0, ↓appC, ↓updS, ↓updN, ↓hpS, ↓hpN]) <;> first | rfl | assumption | exact congrArg (fun z => some (Blk.mk z 6 115)) (by rw [mkG_zero, ← hl]; rfl)
  ·simp only [List.map_cons, List.map_nil, List.mem_cons, List.not_mem_nil, or_false, not_or] at hn
   (simp (disch := omega) only [↓app0, ↓appC, ↓updS, ↓updN, ↓hpS, ↓hpN])
 ·exact Nat.le_refl _
 intro i hI ih
 refine lStep (wSeq (wSeq (wRegion (rmI rfl rfl rfl rfl rfl (rmL rfl rfl rfl rfl rfl (rll rfl rfl rfl rfl rfl rfl ?_))))))
 refine rlt rfl rfl rfl rfl rfl rfl ?_ ?_ <;> intro h3_3
 ·refine rNil (qSeq (wT rfl (wSkip (qSeq (wSeq (wBlock (wRegion (rmV rfl rfl rfl rfl rfl (rmI rfl rfl rfl rfl rfl (rmL rfl rfl rfl rfl rfl (rmI rfl rfl rfl rfl rfl ?_)))))))))))
  (apply rixl rfl rfl rfl rfl; exact Q5; (first | rfl | assumption | (exact getMap Sn.T Sn0 (by omega))); rfl; rfl; rfl; rfl)
  refine rlir (vs := [.int _ _, .int _ _, .int _ _, .int _ _, .int _ _, .int _ _]) rfl rfl rfl (Nat.le_of_ble_eq_true rfl) rfl rfl rfl rfl (rcl (s84 (L.getD i Sn0)) rfl rfl rfl rfl rfl rfl ?_)
  (apply rixv rfl rfl rfl rfl; exact Q0; rfl; exact Q5; exact Q5; rfl; rfl; rfl)
  (apply rst rfl rfl rfl; exact Q0; exact mkG_get Sn.V [.int .i64 0, .int .i64 0, .int .i64 0, .int .i64 0, .int .i64 0, .int .i64 0] (by omega); rfl; rfl; rfl; rfl; (exact Nat.le_of_ble_eq_true rfl); rfl; rfl; rfl)
  refine rNil (qBlock (qSeq (wRegion (rmI rfl rfl rfl rfl rfl (raddF rfl rfl rfl ?_ ?_ rfl rfl rfl ?_)))))
  ·exact Q5
  ·exact Q5
  refine raI rfl rfl rfl rfl rfl (rNil (qLoop ?_))
  exact wlH (ih (i + 1) (by omega) (by omega)) (by (repeat first | exact LE.nil _ | refine LE.unk _ _ ?_ | refine LE.eq _ _ _ rfl ?_)) (by
   refine lessApp (n := n) hz (fun jx hj => ?_) (fun jx hl hn => ?_)
   ·simp only [List.map_cons, List.map_nil, List.mem_cons, List.not_mem_nil, or_false] at hj
    rcases hj with rfl <;> (simp (disch := omega) only [↓app0, ↓appC, ↓updS, ↓updN, ↓hpS, ↓hpN]) <;> first | rfl | assumption | exact congrArg (fun z => some (Blk.mk z 6 115)) (mkG_set Sn.V [.int .i64 0, .int .i64 0, .int .i64 0, .int .i64 0, .int .i64 0, .int .i64 0] Sn0 (by omega))
   ·simp only [List.map_cons, List.map_nil, List.mem_cons, List.not_mem_nil, or_false, not_or] at hn
    (simp (disch := omega) only [↓app0, ↓appC, ↓updS, ↓updN, ↓hpS, ↓hpN])) (Nat.le_refl _)
 ·refine rNil (qSeq (wF rfl (wExit (qSeqX (qLoopX (qBlockX (qSeq (wSeq (wRegion (rmV rfl rfl rfl rfl rfl (raV rfl rfl rfl rfl rfl (rNil ?_))))))))))))
  refine qSeq (wRet ?_)
  obtain rfl : i = L.length := by omega
  exact finO rfl (congrArg (V.view n 0) hl) (leWr (by
   intro j hj
   simp only [List.map_cons, List.map_nil, List.mem_cons, List.not_mem_nil, or_false] at hj
   rcases hj with rfl <;> (simp (disch := omega) only [↓app0, ↓appC, ↓updS, ↓updN, ↓hpS, ↓hpN]) <;> first | rfl | (exact congrArg (fun z => some (Blk.mk z 6 115)) (mkG_full Sn.V [.int .i64 0, .int .i64 0, .int .i64 0, .int .i64 0, .int .i64 0, .int .i64 0] L))) (fun j hj hn => by
   simp only [List.map_cons, List.map_nil, List.mem_cons, List.not_mem_nil, or_false, not_or] at hn
   (simp (disch := omega) only [↓app0, ↓appC, ↓updS, ↓updN, ↓hpS, ↓hpN]) <;> rfl)) (Nat.le_refl _)
theorem o83 (l : Lk) (fr : Bool) (hL : l.ws.length ≤ 1048576) {h : Heap} {n : Nat} : V.Open En 83 [.agg (l.V (.sl fr false (l.ws.map wtT)))] h n (.agg (l.V (.view (n + 3) 0 l.ws.length))) [(n + 3, some ⟨l.ws.map wtV, 2, 123⟩)] (n + 4) := by
 refine V.Open.of_wp Try.func83 rfl (Nat.le_of_ble_eq_true rfl) ?_
 refine wSeq (wRegion ?_)
 (refine rbx (u := .agg (l.V (.sl fr false (l.ws.map wtT)))) rfl rfl rfl rfl rfl rfl rfl ?_)
 refine ral rfl rfl rfl rfl rfl rfl (rNil (qSeq (wSeq (wRegion (ral rfl rfl rfl rfl rfl rfl (rNil (qSeq (wSeq (wRegion (rfa (off := 0) (s := 1) (r := false) rfl rfl rfl (Nat.succ_ne_zero _) rfl rfl rfl ?_))))))))))
 (apply rlc (v := .str _) rfl rfl; exact Q0; rfl; rfl; rfl; rfl; rfl; rfl)
 refine rfa (off := 0) (s := 1) (r := false) rfl rfl rfl (Nat.succ_ne_zero _) rfl rfl rfl ?_
 (apply rst (u := .str _) rfl rfl rfl; exact Q0; rfl; rfl; rfl; rfl; rfl; (exact Nat.le_of_ble_eq_true rfl); rfl; rfl; rfl)
 refine rNil (qSeq (wSeq (wRegion (rfa (off := 1) (s := 1) (r := false) rfl rfl rfl (Nat.succ_ne_zero _) rfl rfl rfl ?_))))
 (apply rlc (v := .int _ _) rfl rfl; exact Q0; rfl; rfl; rfl; rfl; rfl; rfl)
 refine rfa (off := 1) (s := 1) (r := false) rfl rfl rfl (Nat.succ_ne_zero _) rfl rfl rfl ?_
 (apply rst (u := .int _ _) rfl rfl rfl; exact Q0; rfl; rfl; rfl; rfl; rfl; (exact Nat.le_of_ble_eq_true rfl); rfl; rfl; rfl)
 refine rNil (qSeq (wSeq (wRegion (rfa (off := 2) (s := 1) (r := false) rfl rfl rfl (Nat.succ_ne_zero _) rfl rfl rfl ?_))))
 (apply rlc (v := .int _ _) rfl rfl; exact Q0; rfl; rfl; rfl; rfl; rfl; rfl)
 refine rfa (off := 2) (s := 1) (r := false) rfl rfl rfl (Nat.succ_ne_zero _) rfl rfl rfl ?_
 (apply rst (u := .int _ _) rfl rfl rfl; exact Q0; rfl; rfl; rfl; rfl; rfl; (exact Nat.le_of_ble_eq_true rfl); rfl; rfl; rfl)
 refine rNil (qSeq (wSeq (wRegion (rfa (off := 3) (s := 1) (r := false) rfl rfl rfl (Nat.succ_ne_zero _) rfl rfl rfl ?_))))
 (apply rlc (v := .int _ _) rfl rfl; exact Q0; rfl; rfl; rfl; rfl; rfl; rfl)
 refine rfa (off := 3) (s := 1) (r := false) rfl rfl rfl (Nat.succ_ne_zero _) rfl rfl rfl ?_
 (apply rst (u := .int _ _) rfl rfl rfl; exact Q0; rfl; rfl; rfl; rfl; rfl; (exact Nat.le_of_ble_eq_true rfl); rfl; rfl; rfl)
 refine rNil (qSeq (wSeq (wRegion (rfa (off := 4) (s := 1) (r := false) rfl rfl rfl (Nat.succ_ne_zero _) rfl rfl rfl ?_))))
 (apply rlc (v := .sl _ _ _) rfl rfl; exact Q0; rfl; rfl; rfl; rfl; rfl; rfl)
 refine rop (o120 fr false l.ws hL) rfl rfl rfl rfl rfl rfl (rfa (off := 4) (s := 1) (r := false) rfl rfl rfl (Nat.succ_ne_zero _) rfl rfl rfl ?_)
 (apply rst (u := .view _ _ _) rfl rfl rfl; exact Q0; rfl; rfl; rfl; rfl; rfl; (exact Nat.le_of_ble_eq_true rfl); rfl; rfl; rfl)
 refine rNil (qSeq (wSeq (wRegion ?_)))
 (apply rlr (vs := [.str _, .int _ _, .int _ _, .int _ _, _]) rfl rfl; exact Q0; rfl; rfl; (exact Nat.le_of_ble_eq_true rfl); rfl; rfl; rfl; rfl)
 (apply rst (u := .agg [.str _, .int _ _, .int _ _, .int _ _, _]) rfl rfl rfl; exact Q0; rfl; rfl; rfl; rfl; rfl; (exact Nat.le_of_ble_eq_true rfl); rfl; rfl; rfl)
 refine rNil (qSeq (wRet (finO (resL_cons (resV_row rfl (by exact Q0) rfl rfl (Nat.le_of_ble_eq_true rfl) rfl) resL_nil) rfl ?_ (Nat.le_refl _))))
 exact (leWr (by
  intro j hj
  simp only [List.map_cons, List.map_nil, List.mem_cons, List.not_mem_nil, or_false] at hj
  rcases hj with rfl <;> (simp (disch := omega) only [↓app0, ↓appC, ↓updS, ↓updN, ↓hpS, ↓hpN]) <;> first | rfl | (fail)) (fun j hj hn => by
  simp only [List.map_cons, List.map_nil, List.mem_cons, List.not_mem_nil, or_false, not_or] at hn
  (simp (disch := omega) only [↓app0, ↓appC, ↓updS, ↓updN, ↓hpS, ↓hpN]) <;> rfl))
theorem o45 (fr nn : Bool) (L : List Lk) (hL : L.length ≤ 1048576) (hW : ∀ i, i < L.length → (L.getD i Lk0).ws.length ≤ 1048576) {h : Heap} {n : Nat} : V.Open En 45 [.sl fr nn (L.map (Lk.T false))] h n (.view n 0 L.length)
  ([(n, some ⟨lkR (fun i => n + 1 + 4 * i + 3) L, 5, 29⟩)] ++ famL (fun i => n + 1 + 4 * i + 3) (wsF L) L.length) (n + 1 + 4 * L.length) := by
 have hl : (L.map (Lk.T false)).length = L.length := List.length_map ..
 refine V.Open.fresh rfl (by omega) fun hz => ?_
 refine V.Open.of_wp Try.func45 rfl (Nat.le_of_ble_eq_true rfl) ?_
 refine wSeq (wRegion (raN rfl rfl rfl rfl rfl (rNil (qSeq (wSeq (wRegion (rmL rfl rfl rfl rfl rfl (rll rfl rfl rfl rfl rfl rfl (rmk (s' := 64) rfl rfl rfl rfl rfl rfl (Nat.succ_ne_zero _) ?_ ?_ rfl rfl rfl ?_)))))))))
 ·exact Q5
 ·exact Q5
 refine raV rfl rfl rfl rfl rfl (rNil (qSeq (wSeq (wSeq (wRegion (raI rfl rfl rfl rfl rfl (rNil (qSeq (wBlock (wLoop ?_))))))))))
 refine loopGo (fun (i : Nat) => [.sl fr nn (L.map (Lk.T false)), .unk, .unk, .view n 0 (L.map (Lk.T false)).length, .int .i64 i]) (fun (i : Nat) => app ([(n, some ⟨mkG (rwV (fun i => n + 1 + 4 * i + 3) L) zL (List.range L.length) i, 5, 29⟩)] ++ famL (fun i => n + 1 + 4 * i + 3) (wsF L) i) h) (fun (i : Nat) => n + 1 + 4 * i) (fun (i : Nat) => i ≤ L.length) (fun (i : Nat) => L.length - i) 0 ?_ ?_ ?_ ?_ ?_
 ·exact Nat.zero_le _
 ·(repeat first | exact LE.nil _ | refine LE.unk _ _ ?_ | refine LE.eq _ _ _ rfl ?_)
 ·rw [famL_zero, List.append_nil]
  refine lessApp (n := n) hz (fun jx hj => ?_) (fun jx hl hn => ?_)
  ·simp only [List.map_cons, List.map_nil, List.mem_cons, List.not_mem_nil, or_false] at hj
   rcases hj with rfl <;> (simp (disch := omega) only [↓app0, ↓appC, ↓updS, ↓updN, ↓hpS, ↓hpN]) <;> first | rfl | assumption | exact congrArg (fun z => some (Blk.mk z 5 29)) (by rw [mkG_zeroR, ← hl]; rfl)
  ·simp only [List.map_cons, List.map_nil, List.mem_cons, List.not_mem_nil, or_false, not_or] at hn
   (simp (disch := omega) only [↓app0, ↓appC, ↓updS, ↓updN, ↓hpS, ↓hpN])
 ·exact Nat.le_refl _
 intro i hI ih
 refine lStep (wSeq (wSeq (wRegion (rmI rfl rfl rfl rfl rfl (rmL rfl rfl rfl rfl rfl (rll rfl rfl rfl rfl rfl rfl ?_))))))
 refine rlt rfl rfl rfl rfl rfl rfl ?_ ?_ <;> intro h3_3
 ·refine rNil (qSeq (wT rfl (wSkip (qSeq (wSeq (wBlock (wRegion (rmV rfl rfl rfl rfl rfl (rmI rfl rfl rfl rfl rfl (rmL rfl rfl rfl rfl rfl (rmI rfl rfl rfl rfl rfl ?_)))))))))))
  (apply rixl rfl rfl rfl rfl; exact Q5; (first | rfl | assumption | (exact getMap (Lk.T false) Lk0 (by omega))); rfl; rfl; rfl; rfl)
  refine rlir (vs := [.str _, .int _ _, .int _ _, .int _ _, _]) rfl rfl rfl (Nat.le_of_ble_eq_true rfl) rfl rfl rfl rfl (rop (o83 (L.getD i Lk0) fr (hW i (by omega))) rfl rfl rfl rfl rfl rfl ?_)
  (apply rixv rfl rfl rfl rfl; exact Q11; rfl; exact Q5; exact Q5; rfl; rfl; rfl)
  (apply rst rfl rfl rfl; exact Q11; exact mkG_getR (rwV (fun i => n + 1 + 4 * i + 3) L) zL (by omega); rfl; rfl; rfl; rfl; (exact Nat.le_of_ble_eq_true rfl); rfl; rfl; rfl)
  refine rNil (qBlock (qSeq (wRegion (rmI rfl rfl rfl rfl rfl (raddF rfl rfl rfl ?_ ?_ rfl rfl rfl ?_)))))
  ·exact Q5
  ·exact Q5
  refine raI rfl rfl rfl rfl rfl (rNil (qLoop ?_))
  exact wlH (ih (i + 1) (by omega) (by omega)) (by (repeat first | exact LE.nil _ | refine LE.unk _ _ ?_ | refine LE.eq _ _ _ rfl ?_)) (by
   refine lessFam (m := n) hz (fun j hj => ?_) (fun j hj => ?_) (fun j hl hf hn => ?_)
   ·refine Eq.trans ?_ (famA (w := fun i => n + 1 + 4 * i + 3) (fun a b _ _ e => by (try dsimp only at e); omega) hj).symm
    (try dsimp only)
    by_cases e : j = i
    ·subst e
     (simp (disch := omega) only [↓app0, ↓appC, ↓updS, ↓updN, ↓hpS, ↓hpN]) <;> rfl
    ·simp (disch := omega) only [↓appC, ↓updN, ↓app0]
     exact famA (w := fun i => n + 1 + 4 * i + 3) (fun a b _ _ e => by (try dsimp only at e); omega) (show j < i by omega)
   ·simp only [List.map_cons, List.map_nil, List.mem_cons, List.not_mem_nil, or_false] at hj
    rw [hj]
    refine Eq.trans ?_ (famAO (fun k _ => by (try dsimp only); omega)).symm
    (simp (disch := omega) only [↓app0, ↓appC, ↓updS, ↓updN, ↓hpS, ↓hpN])
    exact congrArg (fun z => some (Blk.mk z 5 29)) (mkG_setR (rwV (fun i => n + 1 + 4 * i + 3) L) zL (m := L.length) (i := i) (by omega))
   ·simp only [List.map_cons, List.map_nil, List.mem_cons, List.not_mem_nil, or_false] at hn
    simp (disch := omega) only [↓appC, ↓updN, ↓app0]
    have hf' : ∀ k, k < i → (fun i => n + 1 + 4 * i + 3) k ≠ j := fun k hk => hf k (Nat.lt_succ_of_lt hk)
    refine (famAO (w := fun i => n + 1 + 4 * i + 3) (n := i) hf').trans ?_
    (simp (disch := omega) only [↓app0, ↓appC, ↓updS, ↓updN, ↓hpS, ↓hpN])) (by omega)
 ·refine rNil (qSeq (wF rfl (wExit (qSeqX (qLoopX (qBlockX (qSeq (wSeq (wRegion (rmV rfl rfl rfl rfl rfl (raV rfl rfl rfl rfl rfl (rNil ?_))))))))))))
  refine qSeq (wRet ?_)
  obtain rfl : i = L.length := by omega
  refine finO rfl (congrArg (V.view n 0) hl) ?_ (Nat.le_refl _)
  rw [mkG_fullR]
  exact fun _ _ _ e => e
open Go.V
set_option linter.unusedVariables false
set_option linter.unusedSimpArgs false
set_option maxRecDepth 20000
set_option maxHeartbeats 4000000
theorem o11 (t : Tb) (fr n1 n2 : Bool) (hL : t.lk.length ≤ 1048576) (hW : ∀ i, i < t.lk.length → (t.lk.getD i Lk0).ws.length ≤ 1048576) (hS : t.sn.length ≤ 1048576) {h : Heap} {n : Nat} :
  V.Open En 11 [.agg [.int .i64 t.tm, .int .i64 t.nx, .sl fr n1 (t.lk.map (Lk.T false)), .sl fr n2 (t.sn.map Sn.T)]] h n (.agg [.int .i64 t.tm, .int .i64 t.nx, .view (n + 3) 0 t.lk.length, .view (n + 3 + 1 + 4 * t.lk.length) 0 t.sn.length])
  ([(n + 3, some ⟨lkR (fun i => n + 3 + 1 + 4 * i + 3) t.lk, 5, 29⟩), (n + 3 + 1 + 4 * t.lk.length, some ⟨t.sn.map Sn.V, 6, 115⟩)] ++ famL (fun i => n + 3 + 1 + 4 * i + 3) (wsF t.lk) t.lk.length) (n + 5 + 4 * t.lk.length) := by
 refine V.Open.of_wp Try.func11 rfl (Nat.le_of_ble_eq_true rfl) ?_
 refine wSeq (wRegion ?_)
 (refine rbx (u := .agg [.int .i64 t.tm, .int .i64 t.nx, .sl fr n1 (t.lk.map (Lk.T false)), .sl fr n2 (t.sn.map Sn.T)]) rfl rfl rfl rfl rfl rfl rfl ?_)
 refine ral rfl rfl rfl rfl rfl rfl (rNil (qSeq (wSeq (wRegion (ral rfl rfl rfl rfl rfl rfl (rNil (qSeq (wSeq (wRegion (rfa (off := 0) (s := 1) (r := false) rfl rfl rfl (Nat.succ_ne_zero _) rfl rfl rfl ?_))))))))))
 (apply rlc (v := .int _ _) rfl rfl; exact Q11; rfl; rfl; rfl; rfl; rfl; rfl)
 refine rfa (off := 0) (s := 1) (r := false) rfl rfl rfl (Nat.succ_ne_zero _) rfl rfl rfl ?_
 (apply rst (u := .int _ _) rfl rfl rfl; exact Q11; rfl; rfl; rfl; rfl; rfl; (exact Nat.le_of_ble_eq_true rfl); rfl; rfl; rfl)
 refine rNil (qSeq (wSeq (wRegion (rfa (off := 1) (s := 1) (r := false) rfl rfl rfl (Nat.succ_ne_zero _) rfl rfl rfl ?_))))
 (apply rlc (v := .int _ _) rfl rfl; exact Q11; rfl; rfl; rfl; rfl; rfl; rfl)
 refine rfa (off := 1) (s := 1) (r := false) rfl rfl rfl (Nat.succ_ne_zero _) rfl rfl rfl ?_
 (apply rst (u := .int _ _) rfl rfl rfl; exact Q11; rfl; rfl; rfl; rfl; rfl; (exact Nat.le_of_ble_eq_true rfl); rfl; rfl; rfl)
 refine rNil (qSeq (wSeq (wRegion (rfa (off := 2) (s := 1) (r := false) rfl rfl rfl (Nat.succ_ne_zero _) rfl rfl rfl ?_))))
 (apply rlc (v := .sl _ _ _) rfl rfl; exact Q11; rfl; rfl; rfl; rfl; rfl; rfl)
 refine rop (o45 fr n1 t.lk hL hW) rfl rfl rfl rfl rfl rfl (rfa (off := 2) (s := 1) (r := false) rfl rfl rfl (Nat.succ_ne_zero _) rfl rfl rfl ?_)
 (apply rst (u := .view _ _ _) rfl rfl rfl; exact Q11; rfl; rfl; rfl; rfl; rfl; (exact Nat.le_of_ble_eq_true rfl); rfl; rfl; rfl)
 refine rNil (qSeq (wSeq (wRegion (rfa (off := 3) (s := 1) (r := false) rfl rfl rfl (Nat.succ_ne_zero _) rfl rfl rfl ?_))))
 (apply rlc (v := .sl _ _ _) rfl rfl; exact Q11; rfl; rfl; rfl; rfl; rfl; rfl)
 refine rop (o46 fr n2 t.sn hS) rfl rfl rfl rfl rfl rfl (rfa (off := 3) (s := 1) (r := false) rfl rfl rfl (Nat.succ_ne_zero _) rfl rfl rfl ?_)
 (apply rst (u := .view _ _ _) rfl rfl rfl; exact Q11; rfl; rfl; rfl; rfl; rfl; (exact Nat.le_of_ble_eq_true rfl); rfl; rfl; rfl)
 refine rNil (qSeq (wSeq (wRegion ?_)))
 (apply rlr (vs := [.int _ _, .int _ _, _, _]) rfl rfl; exact Q11; rfl; rfl; (exact Nat.le_of_ble_eq_true rfl); rfl; rfl; rfl; rfl)
 (apply rst (u := .agg [.int _ _, .int _ _, _, _]) rfl rfl rfl; exact Q11; rfl; rfl; rfl; rfl; rfl; (exact Nat.le_of_ble_eq_true rfl); rfl; rfl; rfl)
 refine rNil (qSeq (wRet (finO (resL_cons (resV_row rfl (by exact Q11) rfl rfl (Nat.le_of_ble_eq_true rfl) rfl) resL_nil) rfl ?_ (by omega))))
 refine leFam (fun i hi => ?_) (fun j hj => ?_) (fun j hl hf hn => ?_)
 ·refine Eq.trans ?_ (famA (w := (fun i => n + 3 + 1 + 4 * i + 3)) (fun a b _ _ e => by (try dsimp only at e); omega) hi).symm
  simp (disch := omega) only [↓appC, ↓updN, ↓app0]
  exact famA (w := (fun i => n + 3 + 1 + 4 * i + 3)) (fun a b _ _ e => by (try dsimp only at e); omega) hi
 ·simp only [List.map_cons, List.map_nil, List.mem_cons, List.not_mem_nil, or_false] at hj
  refine Eq.trans ?_ (famAO (fun k _ => by rcases hj with e | e <;> rw [e] <;> (try dsimp only) <;> omega)).symm
  rcases hj with e | e <;> rw [e] <;> simp (disch := (first | omega | (intro _ _; dsimp only; omega))) only [↓app_append, ↓famO, ↓app0, ↓appC, ↓updS, ↓updN, ↓hpS, ↓hpN] <;> rfl
 ·simp only [List.map_cons, List.map_nil, List.mem_cons, List.not_mem_nil, or_false, not_or] at hn
  simp (disch := omega) only [↓appC, ↓updN, ↓app0]
  refine (famAO (w := (fun i => n + 3 + 1 + 4 * i + 3)) (n := t.lk.length) hf).trans ?_
  simp (disch := omega) only [↓app0, ↓appC, ↓updS, ↓updN, ↓hpS, ↓hpN]
theorem s39 (a : An) : Pure En 39 [.agg a.T, .agg a.T] [.one (.bool true)] := by
 refine Pure.of_wp Try.func39 rfl (Nat.le_of_ble_eq_true rfl) ?_
 refine wSeq (wRegion (rbx (u := .agg [.int _ _, .int _ _, .int _ _, .int _ _]) rfl rfl rfl rfl rfl rfl rfl (rbx (u := .agg [.int _ _, .int _ _, .int _ _, .int _ _]) rfl rfl rfl rfl rfl rfl rfl (raB rfl rfl rfl rfl rfl (rNil (qSeq (wSeq (wSeq (wRegion (rfa (off := 0) (s := 1) (r := false) rfl rfl rfl (Nat.succ_ne_zero _) rfl rfl rfl ?_))))))))))
 (apply rlc (v := .int _ _) rfl rfl; exact Q0; rfl; rfl; rfl; rfl; rfl; rfl)
 refine rfa (off := 0) (s := 1) (r := false) rfl rfl rfl (Nat.succ_ne_zero _) rfl rfl rfl ?_
 (apply rlc (v := .int _ _) rfl rfl; exact Q0; rfl; rfl; rfl; rfl; rfl; rfl)
 refine rne rfl rfl rfl rfl rfl rfl ?_ ?_ <;> intro h1_4
 ·refine rNil (qSeq (wT rfl (wSeq (wRegion (raB rfl rfl rfl rfl rfl (rNil (qSeq (wRet (qSeqR ?_)))))))))
  first | exact fin rfl rfl | exact absurd rfl h1_4 | exact absurd rfl h3_4 | exact absurd rfl h5_4 | exact absurd rfl h7_4
 ·refine rNil (qSeq (wF rfl (wSkip (qSeq (wSeq (wSeq (wRegion (rfa (off := 1) (s := 1) (r := false) rfl rfl rfl (Nat.succ_ne_zero _) rfl rfl rfl ?_))))))))
  (apply rlc (v := .int _ _) rfl rfl; exact Q0; rfl; rfl; rfl; rfl; rfl; rfl)
  refine rfa (off := 1) (s := 1) (r := false) rfl rfl rfl (Nat.succ_ne_zero _) rfl rfl rfl ?_
  (apply rlc (v := .int _ _) rfl rfl; exact Q0; rfl; rfl; rfl; rfl; rfl; rfl)
  refine rne rfl rfl rfl rfl rfl rfl ?_ ?_ <;> intro h3_4
  ·refine rNil (qSeq (wT rfl (wSeq (wRegion (raB rfl rfl rfl rfl rfl (rNil (qSeq (wRet (qSeqR ?_)))))))))
   first | exact fin rfl rfl | exact absurd rfl h1_4 | exact absurd rfl h3_4 | exact absurd rfl h5_4 | exact absurd rfl h7_4
  ·refine rNil (qSeq (wF rfl (wSkip (qSeq (wSeq (wSeq (wRegion (rfa (off := 2) (s := 1) (r := false) rfl rfl rfl (Nat.succ_ne_zero _) rfl rfl rfl ?_))))))))
   (apply rlc (v := .int _ _) rfl rfl; exact Q0; rfl; rfl; rfl; rfl; rfl; rfl)
   refine rfa (off := 2) (s := 1) (r := false) rfl rfl rfl (Nat.succ_ne_zero _) rfl rfl rfl ?_
   (apply rlc (v := .int _ _) rfl rfl; exact Q0; rfl; rfl; rfl; rfl; rfl; rfl)
   refine rne rfl rfl rfl rfl rfl rfl ?_ ?_ <;> intro h5_4
   ·refine rNil (qSeq (wT rfl (wSeq (wRegion (raB rfl rfl rfl rfl rfl (rNil (qSeq (wRet (qSeqR ?_)))))))))
    first | exact fin rfl rfl | exact absurd rfl h1_4 | exact absurd rfl h3_4 | exact absurd rfl h5_4 | exact absurd rfl h7_4
   ·refine rNil (qSeq (wF rfl (wSkip (qSeq (wSeq (wSeq (wRegion (rfa (off := 3) (s := 1) (r := false) rfl rfl rfl (Nat.succ_ne_zero _) rfl rfl rfl ?_))))))))
    (apply rlc (v := .int _ _) rfl rfl; exact Q0; rfl; rfl; rfl; rfl; rfl; rfl)
    refine rfa (off := 3) (s := 1) (r := false) rfl rfl rfl (Nat.succ_ne_zero _) rfl rfl rfl ?_
    (apply rlc (v := .int _ _) rfl rfl; exact Q0; rfl; rfl; rfl; rfl; rfl; rfl)
    refine rne rfl rfl rfl rfl rfl rfl ?_ ?_ <;> intro h7_4
    ·refine rNil (qSeq (wT rfl (wSeq (wRegion (raB rfl rfl rfl rfl rfl (rNil (qSeq (wRet (qSeqR ?_)))))))))
     first | exact fin rfl rfl | exact absurd rfl h1_4 | exact absurd rfl h3_4 | exact absurd rfl h5_4 | exact absurd rfl h7_4
    ·refine rNil (qSeq (wF rfl (wSkip (qSeq (wSeq (wRegion (raB rfl rfl rfl rfl rfl (rNil (qSeq (wRet ?_))))))))))
     first | exact fin rfl rfl | exact absurd rfl h1_4 | exact absurd rfl h3_4 | exact absurd rfl h5_4 | exact absurd rfl h7_4
theorem s92 (a : Wt) : Pure En 92 [.agg (wtT a), .agg (wtT a)] [.one (.bool true)] := by
 refine Pure.of_wp Try.func92 rfl (Nat.le_of_ble_eq_true rfl) ?_
 refine wSeq (wRegion (rbx (u := .agg [.int _ _, .int _ _]) rfl rfl rfl rfl rfl rfl rfl (rbx (u := .agg [.int _ _, .int _ _]) rfl rfl rfl rfl rfl rfl rfl (raB rfl rfl rfl rfl rfl (rNil (qSeq (wSeq (wSeq (wRegion (rfa (off := 0) (s := 1) (r := false) rfl rfl rfl (Nat.succ_ne_zero _) rfl rfl rfl ?_))))))))))
 (apply rlc (v := .int _ _) rfl rfl; exact Q0; rfl; rfl; rfl; rfl; rfl; rfl)
 refine rfa (off := 0) (s := 1) (r := false) rfl rfl rfl (Nat.succ_ne_zero _) rfl rfl rfl ?_
 (apply rlc (v := .int _ _) rfl rfl; exact Q0; rfl; rfl; rfl; rfl; rfl; rfl)
 refine rne rfl rfl rfl rfl rfl rfl ?_ ?_ <;> intro h1_4
 ·refine rNil (qSeq (wT rfl (wSeq (wRegion (raB rfl rfl rfl rfl rfl (rNil (qSeq (wRet (qSeqR ?_)))))))))
  first | exact fin rfl rfl | exact absurd rfl h1_4 | exact absurd rfl h3_4
 ·refine rNil (qSeq (wF rfl (wSkip (qSeq (wSeq (wSeq (wRegion (rfa (off := 1) (s := 1) (r := false) rfl rfl rfl (Nat.succ_ne_zero _) rfl rfl rfl ?_))))))))
  (apply rlc (v := .int _ _) rfl rfl; exact Q0; rfl; rfl; rfl; rfl; rfl; rfl)
  refine rfa (off := 1) (s := 1) (r := false) rfl rfl rfl (Nat.succ_ne_zero _) rfl rfl rfl ?_
  (apply rlc (v := .int _ _) rfl rfl; exact Q0; rfl; rfl; rfl; rfl; rfl; rfl)
  refine rne rfl rfl rfl rfl rfl rfl ?_ ?_ <;> intro h3_4
  ·refine rNil (qSeq (wT rfl (wSeq (wRegion (raB rfl rfl rfl rfl rfl (rNil (qSeq (wRet (qSeqR ?_)))))))))
   first | exact fin rfl rfl | exact absurd rfl h1_4 | exact absurd rfl h3_4
  ·refine rNil (qSeq (wF rfl (wSkip (qSeq (wSeq (wRegion (raB rfl rfl rfl rfl rfl (rNil (qSeq (wRet ?_))))))))))
   first | exact fin rfl rfl | exact absurd rfl h1_4 | exact absurd rfl h3_4
theorem s93 (s : Sn) : Pure En 93 [.agg s.T, .agg s.T] [.one (.bool true)] := by
 refine Pure.of_wp Try.func93 rfl (Nat.le_of_ble_eq_true rfl) ?_
 refine wSeq (wRegion (rbx (u := .agg [.int _ _, .int _ _, .int _ _, .int _ _, .int _ _, .int _ _]) rfl rfl rfl rfl rfl rfl rfl (rbx (u := .agg [.int _ _, .int _ _, .int _ _, .int _ _, .int _ _, .int _ _]) rfl rfl rfl rfl rfl rfl rfl (raB rfl rfl rfl rfl rfl (rNil (qSeq (wSeq (wSeq (wRegion (rfa (off := 0) (s := 1) (r := false) rfl rfl rfl (Nat.succ_ne_zero _) rfl rfl rfl ?_))))))))))
 (apply rlc (v := .int _ _) rfl rfl; exact Q0; rfl; rfl; rfl; rfl; rfl; rfl)
 refine rfa (off := 0) (s := 1) (r := false) rfl rfl rfl (Nat.succ_ne_zero _) rfl rfl rfl ?_
 (apply rlc (v := .int _ _) rfl rfl; exact Q0; rfl; rfl; rfl; rfl; rfl; rfl)
 refine rne rfl rfl rfl rfl rfl rfl ?_ ?_ <;> intro h1_4
 ·refine rNil (qSeq (wT rfl (wSeq (wRegion (raB rfl rfl rfl rfl rfl (rNil (qSeq (wRet (qSeqR ?_)))))))))
  first | exact fin rfl rfl | exact absurd rfl h1_4 | exact absurd rfl h3_4
 ·refine rNil (qSeq (wF rfl (wSkip (qSeq (wSeq (wSeq (wRegion (rfa (off := 1) (s := 1) (r := false) rfl rfl rfl (Nat.succ_ne_zero _) rfl rfl rfl ?_))))))))
  (apply rlc (v := .int _ _) rfl rfl; exact Q0; rfl; rfl; rfl; rfl; rfl; rfl)
  refine rfa (off := 1) (s := 1) (r := false) rfl rfl rfl (Nat.succ_ne_zero _) rfl rfl rfl ?_
  (apply rlc (v := .int _ _) rfl rfl; exact Q0; rfl; rfl; rfl; rfl; rfl; rfl)
  refine rne rfl rfl rfl rfl rfl rfl ?_ ?_ <;> intro h3_4
  ·refine rNil (qSeq (wT rfl (wSeq (wRegion (raB rfl rfl rfl rfl rfl (rNil (qSeq (wRet (qSeqR ?_)))))))))
   first | exact fin rfl rfl | exact absurd rfl h1_4 | exact absurd rfl h3_4
  ·refine rNil (qSeq (wF rfl (wSkip (qSeq (wSeq (wSeq (wRegion (rfa (off := 2) (s := 4) (r := true) rfl rfl rfl (Nat.succ_ne_zero _) rfl rfl rfl ?_))))))))
   (apply rlr (vs := [.int _ _, .int _ _, .int _ _, .int _ _]) rfl rfl; exact Q0; rfl; rfl; (exact Nat.le_of_ble_eq_true rfl); rfl; rfl; rfl; rfl)
   refine rfa (off := 2) (s := 4) (r := true) rfl rfl rfl (Nat.succ_ne_zero _) rfl rfl rfl ?_
   (apply rlr (vs := [.int _ _, .int _ _, .int _ _, .int _ _]) rfl rfl; exact Q0; rfl; rfl; (exact Nat.le_of_ble_eq_true rfl); rfl; rfl; rfl; rfl)
   refine rcl (s39 s.an) rfl rfl rfl rfl rfl rfl (rnot (c := true) rfl rfl rfl rfl rfl (rNil (qSeq (wF rfl (wSkip (qSeq (wSeq (wRegion (raB rfl rfl rfl rfl rfl (rNil (qSeq (wRet ?_))))))))))))
   first | exact fin rfl rfl | exact absurd rfl h1_4 | exact absurd rfl h3_4
theorem s50 (n1 n2 : Bool) (L : List Wt) (hL : L.length ≤ 1048577) : Pure En 50 [.one (.sl n1 (L.map (wtT))), .one (.sl n2 (L.map (wtT)))] [.one (.bool true)] := by
 have hl : (L.map (wtT)).length = L.length := List.length_map ..
 have hl2 : (L.map (wtT)).length = L.length := List.length_map ..
 refine Pure.of_wp Try.func50 rfl (Nat.le_of_ble_eq_true rfl) ?_
 refine wSeq (wRegion (raB rfl rfl rfl rfl rfl (rNil (qSeq (wSeq (wSeq (wRegion (rmL rfl rfl rfl rfl rfl (rll rfl rfl rfl rfl rfl rfl (rmL rfl rfl rfl rfl rfl (rll rfl rfl rfl rfl rfl rfl ?_)))))))))))
 refine rne rfl rfl rfl rfl rfl rfl ?_ ?_ <;> intro h1_4
 ·refine rNil (qSeq (wT rfl (wSeq (wRegion (raB rfl rfl rfl rfl rfl (rNil (qSeq (wRet (qSeqR ?_)))))))))
  first | exact fin rfl rfl | exact absurd rfl h1_4 | exact absurd (hl.trans hl2.symm) (by assumption) | omega
 ·refine rNil (qSeq (wF rfl (wSkip (qSeq (wSeq (wSeq (wRegion (raI rfl rfl rfl rfl rfl (rNil (qSeq (wBlock (wLoop ?_))))))))))))
  refine loopGo0 (fun (i : Nat) => [.sl false n1 (L.map (wtT)), .sl false n2 (L.map (wtT)), .unk, .unk, .unk, .int .i64 i]) (fun (i : Nat) => i ≤ L.length) (fun (i : Nat) => L.length - i) 0 ?_ ?_ ?_
  ·exact Nat.zero_le _
  ·(repeat first | exact LE.nil _ | refine LE.unk _ _ ?_ | refine LE.eq _ _ _ rfl ?_)
  intro i hI ih
  refine lStep (wSeq (wSeq (wRegion (rmI rfl rfl rfl rfl rfl (rmL rfl rfl rfl rfl rfl (rll rfl rfl rfl rfl rfl rfl ?_))))))
  refine rlt rfl rfl rfl rfl rfl rfl ?_ ?_ <;> intro h4_3
  ·refine rNil (qSeq (wT rfl (wSkip (qSeq (wSeq (wBlock (wSeq (wDraw [0, 0, 3, 7, 0, 0, 48, 112, 255, 511] rfl (by decide +kernel) ?_))))))))
   refine dmL rfl rfl rfl rfl rfl (dmI rfl rfl rfl rfl rfl ?_)
   (apply dixl rfl rfl rfl rfl; exact Q5; (first | rfl | assumption | (first | exact getMap (wtT) (0, 0) (k := i) (by omega) | exact getMap (wtT) (0, 0) (k := i) (by omega))); rfl; rfl; rfl; rfl)
   refine dlir (vs := [.int _ _, .int _ _]) rfl rfl rfl (Nat.le_of_ble_eq_true rfl) rfl rfl rfl rfl (dmL rfl rfl rfl rfl rfl (dmI rfl rfl rfl rfl rfl ?_))
   (apply dixl rfl rfl rfl rfl; exact Q5; (first | rfl | assumption | (first | exact getMap (wtT) (0, 0) (k := i) (by omega) | exact getMap (wtT) (0, 0) (k := i) (by omega))); rfl; rfl; rfl; rfl)
   refine dlir (vs := [.int _ _, .int _ _]) rfl rfl rfl (Nat.le_of_ble_eq_true rfl) rfl rfl rfl rfl (dcl (s92 (L.getD i (0, 0))) rfl rfl rfl rfl rfl rfl (dnot (c := true) rfl rfl rfl rfl rfl (dNilR 10 [0, 0, 0, 0, 0, 0, 0, 0, 0, 0] [] rfl rfl (by decide +kernel) trivial ?_)))
   refine qSeq (wF rfl (wSkip (qBlock (qSeq (wRegion (rmI rfl rfl rfl rfl rfl (raddF rfl rfl rfl ?_ ?_ rfl rfl rfl ?_)))))))
   ·exact Q5
   ·exact Q5
   refine raI rfl rfl rfl rfl rfl (rNil (qLoop ?_))
   exact wlN (ih (i + 1) (by omega) (by omega)) (by (repeat first | exact LE.nil _ | refine LE.unk _ _ ?_ | refine LE.eq _ _ _ rfl ?_))
  ·refine rNil (qSeq (wF rfl (wExit (qSeqX (qLoopX (qBlockX (qSeq (wSeq (wRegion (raB rfl rfl rfl rfl rfl (rNil (qSeq ?_))))))))))))
   refine wRet ?_
   first | exact fin rfl rfl | exact absurd rfl h1_4 | exact absurd (hl.trans hl2.symm) (by assumption) | omega
theorem s13 (b1 b2 : Bool) (l : Lk) (hL : l.ws.length ≤ 1048577) : Pure En 13 [.agg (l.T b1), .agg (l.T b2)] [.one (.bool true)] := by
 refine Pure.of_wp Try.func13 rfl (Nat.le_of_ble_eq_true rfl) ?_
 refine wSeq (wRegion (rbx (u := .agg [.str _, .int _ _, .int _ _, .int _ _, _]) rfl rfl rfl rfl rfl rfl rfl (rbx (u := .agg [.str _, .int _ _, .int _ _, .int _ _, _]) rfl rfl rfl rfl rfl rfl rfl (raB rfl rfl rfl rfl rfl (rNil (qSeq (wSeq (wSeq (wRegion (rfa (off := 0) (s := 1) (r := false) rfl rfl rfl (Nat.succ_ne_zero _) rfl rfl rfl ?_))))))))))
 (apply rlc (v := .str _) rfl rfl; exact Q0; rfl; rfl; rfl; rfl; rfl; rfl)
 refine rfa (off := 0) (s := 1) (r := false) rfl rfl rfl (Nat.succ_ne_zero _) rfl rfl rfl ?_
 (apply rlc (v := .str _) rfl rfl; exact Q0; rfl; rfl; rfl; rfl; rfl; rfl)
 refine rsne rfl rfl rfl rfl rfl rfl ?_ ?_ <;> intro h1_4
 ·refine rNil (qSeq (wT rfl (wSeq (wRegion (raB rfl rfl rfl rfl rfl (rNil (qSeq (wRet (qSeqR ?_)))))))))
  first | exact fin rfl rfl | exact absurd rfl h1_4 | exact absurd rfl h3_4 | exact absurd rfl h5_4 | exact absurd rfl h7_4
 ·refine rNil (qSeq (wF rfl (wSkip (qSeq (wSeq (wSeq (wRegion (rfa (off := 1) (s := 1) (r := false) rfl rfl rfl (Nat.succ_ne_zero _) rfl rfl rfl ?_))))))))
  (apply rlc (v := .int _ _) rfl rfl; exact Q0; rfl; rfl; rfl; rfl; rfl; rfl)
  refine rfa (off := 1) (s := 1) (r := false) rfl rfl rfl (Nat.succ_ne_zero _) rfl rfl rfl ?_
  (apply rlc (v := .int _ _) rfl rfl; exact Q0; rfl; rfl; rfl; rfl; rfl; rfl)
  refine rne rfl rfl rfl rfl rfl rfl ?_ ?_ <;> intro h3_4
  ·refine rNil (qSeq (wT rfl (wSeq (wRegion (raB rfl rfl rfl rfl rfl (rNil (qSeq (wRet (qSeqR ?_)))))))))
   first | exact fin rfl rfl | exact absurd rfl h1_4 | exact absurd rfl h3_4 | exact absurd rfl h5_4 | exact absurd rfl h7_4
  ·refine rNil (qSeq (wF rfl (wSkip (qSeq (wSeq (wSeq (wRegion (rfa (off := 2) (s := 1) (r := false) rfl rfl rfl (Nat.succ_ne_zero _) rfl rfl rfl ?_))))))))
   (apply rlc (v := .int _ _) rfl rfl; exact Q0; rfl; rfl; rfl; rfl; rfl; rfl)
   refine rfa (off := 2) (s := 1) (r := false) rfl rfl rfl (Nat.succ_ne_zero _) rfl rfl rfl ?_
   (apply rlc (v := .int _ _) rfl rfl; exact Q0; rfl; rfl; rfl; rfl; rfl; rfl)
   refine rne rfl rfl rfl rfl rfl rfl ?_ ?_ <;> intro h5_4
   ·refine rNil (qSeq (wT rfl (wSeq (wRegion (raB rfl rfl rfl rfl rfl (rNil (qSeq (wRet (qSeqR ?_)))))))))
    first | exact fin rfl rfl | exact absurd rfl h1_4 | exact absurd rfl h3_4 | exact absurd rfl h5_4 | exact absurd rfl h7_4
   ·refine rNil (qSeq (wF rfl (wSkip (qSeq (wSeq (wSeq (wRegion (rfa (off := 3) (s := 1) (r := false) rfl rfl rfl (Nat.succ_ne_zero _) rfl rfl rfl ?_))))))))
    (apply rlc (v := .int _ _) rfl rfl; exact Q0; rfl; rfl; rfl; rfl; rfl; rfl)
    refine rfa (off := 3) (s := 1) (r := false) rfl rfl rfl (Nat.succ_ne_zero _) rfl rfl rfl ?_
    (apply rlc (v := .int _ _) rfl rfl; exact Q0; rfl; rfl; rfl; rfl; rfl; rfl)
    refine rne rfl rfl rfl rfl rfl rfl ?_ ?_ <;> intro h7_4
    ·refine rNil (qSeq (wT rfl (wSeq (wRegion (raB rfl rfl rfl rfl rfl (rNil (qSeq (wRet (qSeqR ?_)))))))))
     first | exact fin rfl rfl | exact absurd rfl h1_4 | exact absurd rfl h3_4 | exact absurd rfl h5_4 | exact absurd rfl h7_4
    ·refine rNil (qSeq (wF rfl (wSkip (qSeq (wSeq (wSeq (wRegion (rfa (off := 4) (s := 1) (r := false) rfl rfl rfl (Nat.succ_ne_zero _) rfl rfl rfl ?_))))))))
     (apply rlc (v := .sl _ _ _) rfl rfl; exact Q0; rfl; rfl; rfl; rfl; rfl; rfl)
     refine rfa (off := 4) (s := 1) (r := false) rfl rfl rfl (Nat.succ_ne_zero _) rfl rfl rfl ?_
     (apply rlc (v := .sl _ _ _) rfl rfl; exact Q0; rfl; rfl; rfl; rfl; rfl; rfl)
     refine rcl (s50 b1 b2 l.ws hL) rfl rfl rfl rfl rfl rfl (rnot (c := true) rfl rfl rfl rfl rfl (rNil (qSeq (wF rfl (wSkip (qSeq (wSeq (wRegion (raB rfl rfl rfl rfl rfl (rNil (qSeq (wRet ?_))))))))))))
     first | exact fin rfl rfl | exact absurd rfl h1_4 | exact absurd rfl h3_4 | exact absurd rfl h5_4 | exact absurd rfl h7_4
theorem s52 (n1 n2 : Bool) (L : List Sn) (hL : L.length ≤ 1048577) : Pure En 52 [.one (.sl n1 (L.map (Sn.T))), .one (.sl n2 (L.map (Sn.T)))] [.one (.bool true)] := by
 have hl : (L.map (Sn.T)).length = L.length := List.length_map ..
 have hl2 : (L.map (Sn.T)).length = L.length := List.length_map ..
 refine Pure.of_wp Try.func52 rfl (Nat.le_of_ble_eq_true rfl) ?_
 refine wSeq (wRegion (raB rfl rfl rfl rfl rfl (rNil (qSeq (wSeq (wSeq (wRegion (rmL rfl rfl rfl rfl rfl (rll rfl rfl rfl rfl rfl rfl (rmL rfl rfl rfl rfl rfl (rll rfl rfl rfl rfl rfl rfl ?_)))))))))))
 refine rne rfl rfl rfl rfl rfl rfl ?_ ?_ <;> intro h1_4
 ·refine rNil (qSeq (wT rfl (wSeq (wRegion (raB rfl rfl rfl rfl rfl (rNil (qSeq (wRet (qSeqR ?_)))))))))
  first | exact fin rfl rfl | exact absurd rfl h1_4 | exact absurd (hl.trans hl2.symm) (by assumption) | omega
 ·refine rNil (qSeq (wF rfl (wSkip (qSeq (wSeq (wSeq (wRegion (raI rfl rfl rfl rfl rfl (rNil (qSeq (wBlock (wLoop ?_))))))))))))
  refine loopGo0 (fun (i : Nat) => [.sl false n1 (L.map (Sn.T)), .sl false n2 (L.map (Sn.T)), .unk, .unk, .unk, .int .i64 i]) (fun (i : Nat) => i ≤ L.length) (fun (i : Nat) => L.length - i) 0 ?_ ?_ ?_
  ·exact Nat.zero_le _
  ·(repeat first | exact LE.nil _ | refine LE.unk _ _ ?_ | refine LE.eq _ _ _ rfl ?_)
  intro i hI ih
  refine lStep (wSeq (wSeq (wRegion (rmI rfl rfl rfl rfl rfl (rmL rfl rfl rfl rfl rfl (rll rfl rfl rfl rfl rfl rfl ?_))))))
  refine rlt rfl rfl rfl rfl rfl rfl ?_ ?_ <;> intro h4_3
  ·refine rNil (qSeq (wT rfl (wSkip (qSeq (wSeq (wBlock (wSeq (wDraw [0, 0, 3, 7, 0, 0, 48, 112, 255, 511] rfl (by decide +kernel) ?_))))))))
   refine dmL rfl rfl rfl rfl rfl (dmI rfl rfl rfl rfl rfl ?_)
   (apply dixl rfl rfl rfl rfl; exact Q5; (first | rfl | assumption | (first | exact getMap (Sn.T) Sn0 (k := i) (by omega) | exact getMap (Sn.T) Sn0 (k := i) (by omega))); rfl; rfl; rfl; rfl)
   refine dlir (vs := [.int _ _, .int _ _, .int _ _, .int _ _, .int _ _, .int _ _]) rfl rfl rfl (Nat.le_of_ble_eq_true rfl) rfl rfl rfl rfl (dmL rfl rfl rfl rfl rfl (dmI rfl rfl rfl rfl rfl ?_))
   (apply dixl rfl rfl rfl rfl; exact Q5; (first | rfl | assumption | (first | exact getMap (Sn.T) Sn0 (k := i) (by omega) | exact getMap (Sn.T) Sn0 (k := i) (by omega))); rfl; rfl; rfl; rfl)
   refine dlir (vs := [.int _ _, .int _ _, .int _ _, .int _ _, .int _ _, .int _ _]) rfl rfl rfl (Nat.le_of_ble_eq_true rfl) rfl rfl rfl rfl (dcl (s93 (L.getD i Sn0)) rfl rfl rfl rfl rfl rfl (dnot (c := true) rfl rfl rfl rfl rfl (dNilR 10 [0, 0, 0, 0, 0, 0, 0, 0, 0, 0] [] rfl rfl (by decide +kernel) trivial ?_)))
   refine qSeq (wF rfl (wSkip (qBlock (qSeq (wRegion (rmI rfl rfl rfl rfl rfl (raddF rfl rfl rfl ?_ ?_ rfl rfl rfl ?_)))))))
   ·exact Q5
   ·exact Q5
   refine raI rfl rfl rfl rfl rfl (rNil (qLoop ?_))
   exact wlN (ih (i + 1) (by omega) (by omega)) (by (repeat first | exact LE.nil _ | refine LE.unk _ _ ?_ | refine LE.eq _ _ _ rfl ?_))
  ·refine rNil (qSeq (wF rfl (wExit (qSeqX (qLoopX (qBlockX (qSeq (wSeq (wRegion (raB rfl rfl rfl rfl rfl (rNil (qSeq ?_))))))))))))
   refine wRet ?_
   first | exact fin rfl rfl | exact absurd rfl h1_4 | exact absurd (hl.trans hl2.symm) (by assumption) | omega
theorem s51 (n1 n2 : Bool) (b1 b2 : Bool) (L : List Lk) (hL : L.length ≤ 1048577) (hW : ∀ i, i < L.length → (L.getD i Lk0).ws.length ≤ 1048577) : Pure En 51 [.one (.sl n1 (L.map (Lk.T b1))), .one (.sl n2 (L.map (Lk.T b2)))] [.one (.bool true)] := by
 have hl : (L.map (Lk.T b1)).length = L.length := List.length_map ..
 have hl2 : (L.map (Lk.T b2)).length = L.length := List.length_map ..
 refine Pure.of_wp Try.func51 rfl (Nat.le_of_ble_eq_true rfl) ?_
 refine wSeq (wRegion (raB rfl rfl rfl rfl rfl (rNil (qSeq (wSeq (wSeq (wRegion (rmL rfl rfl rfl rfl rfl (rll rfl rfl rfl rfl rfl rfl (rmL rfl rfl rfl rfl rfl (rll rfl rfl rfl rfl rfl rfl ?_)))))))))))
 refine rne rfl rfl rfl rfl rfl rfl ?_ ?_ <;> intro h1_4
 ·refine rNil (qSeq (wT rfl (wSeq (wRegion (raB rfl rfl rfl rfl rfl (rNil (qSeq (wRet (qSeqR ?_)))))))))
  first | exact fin rfl rfl | exact absurd rfl h1_4 | exact absurd (hl.trans hl2.symm) (by assumption) | omega
 ·refine rNil (qSeq (wF rfl (wSkip (qSeq (wSeq (wSeq (wRegion (raI rfl rfl rfl rfl rfl (rNil (qSeq (wBlock (wLoop ?_))))))))))))
  refine loopGo0 (fun (i : Nat) => [.sl false n1 (L.map (Lk.T b1)), .sl false n2 (L.map (Lk.T b2)), .unk, .unk, .unk, .int .i64 i]) (fun (i : Nat) => i ≤ L.length) (fun (i : Nat) => L.length - i) 0 ?_ ?_ ?_
  ·exact Nat.zero_le _
  ·(repeat first | exact LE.nil _ | refine LE.unk _ _ ?_ | refine LE.eq _ _ _ rfl ?_)
  intro i hI ih
  refine lStep (wSeq (wSeq (wRegion (rmI rfl rfl rfl rfl rfl (rmL rfl rfl rfl rfl rfl (rll rfl rfl rfl rfl rfl rfl ?_))))))
  refine rlt rfl rfl rfl rfl rfl rfl ?_ ?_ <;> intro h4_3
  ·refine rNil (qSeq (wT rfl (wSkip (qSeq (wSeq (wBlock (wSeq (wDraw [0, 0, 3, 7, 0, 0, 48, 112, 255, 511] rfl (by decide +kernel) ?_))))))))
   refine dmL rfl rfl rfl rfl rfl (dmI rfl rfl rfl rfl rfl ?_)
   (apply dixl rfl rfl rfl rfl; exact Q5; (first | rfl | assumption | (first | exact getMap (Lk.T b1) Lk0 (k := i) (by omega) | exact getMap (Lk.T b2) Lk0 (k := i) (by omega))); rfl; rfl; rfl; rfl)
   refine dlir (vs := [.str _, .int _ _, .int _ _, .int _ _, _]) rfl rfl rfl (Nat.le_of_ble_eq_true rfl) rfl rfl rfl rfl (dmL rfl rfl rfl rfl rfl (dmI rfl rfl rfl rfl rfl ?_))
   (apply dixl rfl rfl rfl rfl; exact Q5; (first | rfl | assumption | (first | exact getMap (Lk.T b1) Lk0 (k := i) (by omega) | exact getMap (Lk.T b2) Lk0 (k := i) (by omega))); rfl; rfl; rfl; rfl)
   refine dlir (vs := [.str _, .int _ _, .int _ _, .int _ _, _]) rfl rfl rfl (Nat.le_of_ble_eq_true rfl) rfl rfl rfl rfl (dcl (s13 b1 b2 (L.getD i Lk0) (hW i (by omega))) rfl rfl rfl rfl rfl rfl ?_)
   refine dnot (c := true) rfl rfl rfl rfl rfl (dNilR 10 [0, 0, 0, 0, 0, 0, 0, 0, 0, 0] [] rfl rfl (by decide +kernel) trivial ?_)
   refine qSeq (wF rfl (wSkip (qBlock (qSeq (wRegion (rmI rfl rfl rfl rfl rfl (raddF rfl rfl rfl ?_ ?_ rfl rfl rfl ?_)))))))
   ·exact Q5
   ·exact Q5
   refine raI rfl rfl rfl rfl rfl (rNil (qLoop ?_))
   exact wlN (ih (i + 1) (by omega) (by omega)) (by (repeat first | exact LE.nil _ | refine LE.unk _ _ ?_ | refine LE.eq _ _ _ rfl ?_))
  ·refine rNil (qSeq (wF rfl (wExit (qSeqX (qLoopX (qBlockX (qSeq (wSeq (wRegion (raB rfl rfl rfl rfl rfl (rNil (qSeq ?_))))))))))))
   refine wRet ?_
   first | exact fin rfl rfl | exact absurd rfl h1_4 | exact absurd (hl.trans hl2.symm) (by assumption) | omega
theorem s14 (t : Tb) (a1 a2 a3 b1 b2 b3 : Bool) (hL : t.lk.length ≤ 1048577) (hW : ∀ i, i < t.lk.length → (t.lk.getD i Lk0).ws.length ≤ 1048577) (hS : t.sn.length ≤ 1048577) : Pure En 14 [.agg (t.T a1 a2 a3), .agg (t.T b1 b2 b3)] [.one (.bool true)] := by
 refine Pure.of_wp Try.func14 rfl (Nat.le_of_ble_eq_true rfl) ?_
 refine wSeq (wRegion (rbx (u := .agg [.int _ _, .int _ _, _, _]) rfl rfl rfl rfl rfl rfl rfl (rbx (u := .agg [.int _ _, .int _ _, _, _]) rfl rfl rfl rfl rfl rfl rfl (raB rfl rfl rfl rfl rfl (rNil (qSeq (wSeq (wSeq (wRegion (rfa (off := 0) (s := 1) (r := false) rfl rfl rfl (Nat.succ_ne_zero _) rfl rfl rfl ?_))))))))))
 (apply rlc (v := .int _ _) rfl rfl; exact Q0; rfl; rfl; rfl; rfl; rfl; rfl)
 refine rfa (off := 0) (s := 1) (r := false) rfl rfl rfl (Nat.succ_ne_zero _) rfl rfl rfl ?_
 (apply rlc (v := .int _ _) rfl rfl; exact Q0; rfl; rfl; rfl; rfl; rfl; rfl)
 refine rne rfl rfl rfl rfl rfl rfl ?_ ?_ <;> intro h1_4
 ·refine rNil (qSeq (wT rfl (wSeq (wRegion (raB rfl rfl rfl rfl rfl (rNil (qSeq (wRet (qSeqR ?_)))))))))
  first | exact fin rfl rfl | exact absurd rfl h1_4 | exact absurd rfl h3_4
 ·refine rNil (qSeq (wF rfl (wSkip (qSeq (wSeq (wSeq (wRegion (rfa (off := 1) (s := 1) (r := false) rfl rfl rfl (Nat.succ_ne_zero _) rfl rfl rfl ?_))))))))
  (apply rlc (v := .int _ _) rfl rfl; exact Q0; rfl; rfl; rfl; rfl; rfl; rfl)
  refine rfa (off := 1) (s := 1) (r := false) rfl rfl rfl (Nat.succ_ne_zero _) rfl rfl rfl ?_
  (apply rlc (v := .int _ _) rfl rfl; exact Q0; rfl; rfl; rfl; rfl; rfl; rfl)
  refine rne rfl rfl rfl rfl rfl rfl ?_ ?_ <;> intro h3_4
  ·refine rNil (qSeq (wT rfl (wSeq (wRegion (raB rfl rfl rfl rfl rfl (rNil (qSeq (wRet (qSeqR ?_)))))))))
   first | exact fin rfl rfl | exact absurd rfl h1_4 | exact absurd rfl h3_4
  ·refine rNil (qSeq (wF rfl (wSkip (qSeq (wSeq (wSeq (wRegion (rfa (off := 2) (s := 1) (r := false) rfl rfl rfl (Nat.succ_ne_zero _) rfl rfl rfl ?_))))))))
   (apply rlc (v := .sl _ _ _) rfl rfl; exact Q0; rfl; rfl; rfl; rfl; rfl; rfl)
   refine rfa (off := 2) (s := 1) (r := false) rfl rfl rfl (Nat.succ_ne_zero _) rfl rfl rfl ?_
   (apply rlc (v := .sl _ _ _) rfl rfl; exact Q0; rfl; rfl; rfl; rfl; rfl; rfl)
   refine rcl (s51 a2 b2 a1 b1 t.lk hL hW) rfl rfl rfl rfl rfl rfl (rnot (c := true) rfl rfl rfl rfl rfl (rNil (qSeq (wF rfl (wSkip (qSeq (wSeq (wSeq (wRegion (rfa (off := 3) (s := 1) (r := false) rfl rfl rfl (Nat.succ_ne_zero _) rfl rfl rfl ?_))))))))))
   (apply rlc (v := .sl _ _ _) rfl rfl; exact Q0; rfl; rfl; rfl; rfl; rfl; rfl)
   refine rfa (off := 3) (s := 1) (r := false) rfl rfl rfl (Nat.succ_ne_zero _) rfl rfl rfl ?_
   (apply rlc (v := .sl _ _ _) rfl rfl; exact Q0; rfl; rfl; rfl; rfl; rfl; rfl)
   refine rcl (s52 a3 b3 t.sn hS) rfl rfl rfl rfl rfl rfl (rnot (c := true) rfl rfl rfl rfl rfl (rNil (qSeq (wF rfl (wSkip (qSeq (wSeq (wRegion (raB rfl rfl rfl rfl rfl (rNil (qSeq (wRet ?_))))))))))))
   first | exact fin rfl rfl | exact absurd rfl h1_4 | exact absurd rfl h3_4
open Go.V
set_option linter.unusedVariables false
set_option linter.unusedSimpArgs false
set_option maxRecDepth 20000
set_option maxHeartbeats 4000000
def szv (k : Int) (m : Nat) : Int := if k - m < 0 then -1 else k - m
theorem szv_neg {k : Int} {m : Nat} (h : k - (m : Int) < 0) : szv k m = -1 := if_pos h
theorem szv_pos {k : Int} {m : Nat} (h : ¬ k - (m : Int) < 0) : szv k m = k - m := if_neg h
theorem szv_le {k : Int} {m : Nat} (hk : 0 ≤ k) : -1 ≤ szv k m ∧ szv k m ≤ k := by unfold szv; split <;> omega
theorem s118 (nn : Bool) (L : List Wt) (k : Int) (hk : 0 ≤ k ∧ k ≤ 1048576) (hm : L.length ≤ 9223372036854775807) : Pure En 118 [.one (.sl nn (L.map wtT)), .one (.int .i64 k)] [.one (.int .i64 (szv k L.length))] := by
 have hl : (L.map wtT).length = L.length := List.length_map ..
 refine Pure.of_wp Try.func118 rfl (Nat.le_of_ble_eq_true rfl) ?_
 refine wSeq (wRegion (raI rfl rfl rfl rfl rfl (rNil (qSeq (wSeq (wRegion (rmI rfl rfl rfl rfl rfl (rmL rfl rfl rfl rfl rfl (rll rfl rfl rfl rfl rfl rfl (rsubF rfl rfl rfl ?_ ?_ rfl rfl rfl ?_))))))))))
 ·exact Q5
 ·exact Q5
 refine raI rfl rfl rfl rfl rfl (rNil (qSeq (wSeq (wSeq (wRegion (rmI rfl rfl rfl rfl rfl ?_))))))
 refine rlt rfl rfl rfl rfl rfl rfl ?_ ?_ <;> intro h2_1
 ·refine rNil (qSeq (wT rfl (wSeq (wRegion (raI rfl rfl rfl rfl rfl (rNil (qSeq (wRet (qSeqR ?_)))))))))
  rw [hl] at h2_1
  first | (rw [szv_neg h2_1]; exact fin rfl rfl) | (rw [szv_pos h2_1]; exact finE rfl rfl (by rw [hl]))
 ·refine rNil (qSeq (wF rfl (wSkip (qSeq (wSeq (wRegion (rmI rfl rfl rfl rfl rfl (raI rfl rfl rfl rfl rfl (rNil (qSeq (wRet ?_)))))))))))
  rw [hl] at h2_1
  first | (rw [szv_neg h2_1]; exact fin rfl rfl) | (rw [szv_pos h2_1]; exact finE rfl rfl (by rw [hl]))
theorem s41 (nn : Bool) (L : List Sn) (k : Int) (hk : 0 ≤ k ∧ k ≤ 1048576) (hm : L.length ≤ 9223372036854775807) : Pure En 41 [.one (.sl nn (L.map Sn.T)), .one (.int .i64 k)] [.one (.int .i64 (szv k L.length))] := by
 have hl : (L.map Sn.T).length = L.length := List.length_map ..
 refine Pure.of_wp Try.func41 rfl (Nat.le_of_ble_eq_true rfl) ?_
 refine wSeq (wRegion (raI rfl rfl rfl rfl rfl (rNil (qSeq (wSeq (wRegion (rmI rfl rfl rfl rfl rfl (rmL rfl rfl rfl rfl rfl (rll rfl rfl rfl rfl rfl rfl (rsubF rfl rfl rfl ?_ ?_ rfl rfl rfl ?_))))))))))
 ·exact Q5
 ·exact Q5
 refine raI rfl rfl rfl rfl rfl (rNil (qSeq (wSeq (wSeq (wRegion (rmI rfl rfl rfl rfl rfl ?_))))))
 refine rlt rfl rfl rfl rfl rfl rfl ?_ ?_ <;> intro h2_1
 ·refine rNil (qSeq (wT rfl (wSeq (wRegion (raI rfl rfl rfl rfl rfl (rNil (qSeq (wRet (qSeqR ?_)))))))))
  rw [hl] at h2_1
  first | (rw [szv_neg h2_1]; exact fin rfl rfl) | (rw [szv_pos h2_1]; exact finE rfl rfl (by rw [hl]))
 ·refine rNil (qSeq (wF rfl (wSkip (qSeq (wSeq (wRegion (rmI rfl rfl rfl rfl rfl (raI rfl rfl rfl rfl rfl (rNil (qSeq (wRet ?_)))))))))))
  rw [hl] at h2_1
  first | (rw [szv_neg h2_1]; exact fin rfl rfl) | (rw [szv_pos h2_1]; exact finE rfl rfl (by rw [hl]))
theorem s80 (b : Bool) (l : Lk) (k : Int) (hk : 0 ≤ k ∧ k ≤ 1048576) (hn : l.nm.size ≤ 9223372036854775807) (hm : l.ws.length ≤ 9223372036854775807) : ∃ x : Int, ((-1 ≤ x ∧ x ≤ k) ∧ (0 ≤ x → (l.ws.length : Int) ≤ k)) ∧ Pure En 80 [.agg (l.T b), .one (.int .i64 k)] [.one (.int .i64 x)] := by
 refine Pure.of_wpX Try.func80 rfl (Nat.le_of_ble_eq_true rfl) ?_
 refine wSeq (wRegion (rbx (u := .agg [.str _, .int _ _, .int _ _, .int _ _, _]) rfl rfl rfl rfl rfl rfl rfl (raI rfl rfl rfl rfl rfl (rNil (qSeq (wSeq (wRegion (rmI rfl rfl rfl rfl rfl (rfa (off := 0) (s := 1) (r := false) rfl rfl rfl (Nat.succ_ne_zero _) rfl rfl rfl ?_)))))))))
 (apply rlc (v := .str _) rfl rfl; exact Q0; rfl; rfl; rfl; rfl; rfl; rfl)
 refine rls rfl rfl rfl rfl rfl rfl (rsubF rfl rfl rfl ?_ ?_ rfl rfl rfl ?_)
 ·exact Q5
 ·exact Q5
 refine raI rfl rfl rfl rfl rfl (rNil (qSeq (wSeq (wSeq (wRegion (rmI rfl rfl rfl rfl rfl ?_))))))
 refine rlt rfl rfl rfl rfl rfl rfl ?_ ?_ <;> intro h2_1
 ·refine rNil (qSeq (wT rfl (wSeq (wRegion (raI rfl rfl rfl rfl rfl (rNil (qSeq (wRet (qSeqR ?_)))))))))
  exact ⟨-1, ⟨by omega, fun h => by omega⟩, fin rfl rfl⟩
 ·refine rNil (qSeq (wF rfl (wSkip (qSeq (wSeq (wRegion (rfa (off := 4) (s := 1) (r := false) rfl rfl rfl (Nat.succ_ne_zero _) rfl rfl rfl ?_)))))))
  (apply rlc (v := .sl _ _ _) rfl rfl; exact Q0; rfl; rfl; rfl; rfl; rfl; rfl)
  refine rmI rfl rfl rfl rfl rfl (rcl (s118 b l.ws (k - l.nm.size) (by omega) hm) rfl rfl rfl rfl rfl rfl ?_)
  refine raI rfl rfl rfl rfl rfl (rNil (qSeq (wSeq (wSeq (wRegion (rmI rfl rfl rfl rfl rfl ?_))))))
  refine rlt rfl rfl rfl rfl rfl rfl ?_ ?_ <;> intro h5_1
  ·refine rNil (qSeq (wT rfl (wSeq (wRegion (raI rfl rfl rfl rfl rfl (rNil (qSeq (wRet (qSeqR ?_)))))))))
   exact ⟨-1, ⟨by omega, fun h => by omega⟩, fin rfl rfl⟩
  ·refine rNil (qSeq (wF rfl (wSkip (qSeq (wSeq (wRegion (rmI rfl rfl rfl rfl rfl (raI rfl rfl rfl rfl rfl (rNil (qSeq (wRet ?_)))))))))))
   have e1 := szv_le (k := k - l.nm.size) (m := l.ws.length) (by omega)
   have e2 : 0 ≤ szv (k - l.nm.size) l.ws.length → (l.ws.length : Int) ≤ k - l.nm.size := fun h => by unfold szv at h; split at h <;> omega
   exact ⟨szv (k - l.nm.size) l.ws.length, ⟨by omega, fun h => by have := e2 h; omega⟩, fin rfl rfl⟩
theorem s40 (nn b : Bool) (L : List Lk) (k : Int) (hk : 0 ≤ k ∧ k ≤ 1048576) (hm : L.length ≤ 9223372036854775807) (hs : ∀ i, i < L.length → (L.getD i Lk0).nm.size ≤ 9223372036854775807 ∧ (L.getD i Lk0).ws.length ≤ 9223372036854775807) : ∃ x : Int, ((-1 ≤ x ∧ x ≤ k) ∧ (0 ≤ x → (L.length : Int) ≤ k ∧ ∀ j, j < L.length → ((L.getD j Lk0).ws.length : Int) ≤ k)) ∧ Pure En 40 [.one (.sl nn (L.map (Lk.T b))), .one (.int .i64 k)] [.one (.int .i64 x)] := by
 have hl : (L.map (Lk.T b)).length = L.length := List.length_map ..
 refine Pure.of_wpX Try.func40 rfl (Nat.le_of_ble_eq_true rfl) ?_
 refine wSeq (wRegion (raI rfl rfl rfl rfl rfl (rNil (qSeq (wSeq (wRegion (rmI rfl rfl rfl rfl rfl (rmL rfl rfl rfl rfl rfl (rll rfl rfl rfl rfl rfl rfl (rsubF rfl rfl rfl ?_ ?_ rfl rfl rfl ?_))))))))))
 ·exact Q5
 ·exact Q5
 refine raI rfl rfl rfl rfl rfl (rNil (qSeq (wSeq (wSeq (wRegion (rmI rfl rfl rfl rfl rfl ?_))))))
 refine rlt rfl rfl rfl rfl rfl rfl ?_ ?_ <;> intro h2_1
 ·refine rNil (qSeq (wT rfl (wSeq (wRegion (raI rfl rfl rfl rfl rfl (rNil (qSeq (wRet (qSeqR ?_)))))))))
  exact ⟨-1, ⟨by omega, fun h => by omega⟩, fin rfl rfl⟩
 ·refine rNil (qSeq (wF rfl (wSkip (qSeq (wSeq (wSeq (wRegion (raI rfl rfl rfl rfl rfl (rNil (qSeq (wBlock (wLoop ?_))))))))))))
  refine loopGo0 (fun (a : Nat × Int) => [.sl false nn (L.map (Lk.T b)), .int .i64 a.2, .unk, .unk, .unk, .int .i64 a.1]) (fun (a : Nat × Int) => a.1 ≤ L.length ∧ (0 ≤ a.2 ∧ a.2 ≤ k) ∧ (L.length : Int) ≤ k ∧ ∀ j, j < a.1 → ((L.getD j Lk0).ws.length : Int) ≤ k) (fun (a : Nat × Int) => L.length - a.1) (0, k - (L.map (Lk.T b)).length) ?_ ?_ ?_
  ·exact ⟨Nat.zero_le _, by dsimp only; omega, by omega, all0⟩
  ·(repeat first | exact LE.nil _ | refine LE.unk _ _ ?_ | refine LE.eq _ _ _ rfl ?_)
  intro ⟨i, a1⟩ hI ih
  dsimp only at hI ⊢
  refine lStep (wSeq (wSeq (wRegion (rmI rfl rfl rfl rfl rfl (rmL rfl rfl rfl rfl rfl (rll rfl rfl rfl rfl rfl rfl ?_))))))
  refine rlt rfl rfl rfl rfl rfl rfl ?_ ?_ <;> intro h5_3
  ·refine rNil (qSeq (wT rfl (wSkip (qSeq (wSeq (wBlock (wSeq (wRegion (rmL rfl rfl rfl rfl rfl (rmI rfl rfl rfl rfl rfl ?_))))))))))
   (apply rixl rfl rfl rfl rfl; exact Q5; (first | rfl | assumption | (exact getMap (Lk.T b) Lk0 (k := i) (by omega))); rfl; rfl; rfl; rfl)
   refine rlir (vs := [.str _, .int _ _, .int _ _, .int _ _, _]) rfl rfl rfl (Nat.le_of_ble_eq_true rfl) rfl rfl rfl rfl (rmI rfl rfl rfl rfl rfl (rclX (s80 b (L.getD i Lk0) a1 (by omega) (hs i (by omega)).1 (hs i (by omega)).2) rfl rfl rfl rfl rfl rfl ?_))
   rintro y h7_5
   try dsimp only at h7_5
   refine raI rfl rfl rfl rfl rfl (rNil (qSeq (wSeq (wRegion (rmI rfl rfl rfl rfl rfl ?_)))))
   refine rlt rfl rfl rfl rfl rfl rfl ?_ ?_ <;> intro h8_1
   ·refine rNil (qSeq (wT rfl (wSeq (wRegion (raI rfl rfl rfl rfl rfl (rNil (qSeq (wRet (qBlockR (qSeqR (qLoopR (qBlockR ?_))))))))))))
    refine qSeqR ?_
    exact ⟨-1, ⟨by omega, fun h => by omega⟩, fin rfl rfl⟩
   ·refine rNil (qSeq (wF rfl (wSkip (qBlock (qSeq (wRegion (rmI rfl rfl rfl rfl rfl (raddF rfl rfl rfl ?_ ?_ rfl rfl rfl ?_))))))))
    ·exact Q5
    ·exact Q5
    refine raI rfl rfl rfl rfl rfl (rNil (qLoop ?_))
    exact wlN (ih (i + 1, y) ⟨by dsimp only; omega, by dsimp only; omega, by omega, allS hI.2.2.2 (by have := h7_5.2 (by omega); omega)⟩ (by dsimp only; omega)) (by (repeat first | exact LE.nil _ | refine LE.unk _ _ ?_ | refine LE.eq _ _ _ rfl ?_))
  ·refine rNil (qSeq (wF rfl (wExit (qSeqX (qLoopX (qBlockX (qSeq (wSeq (wRegion (rmI rfl rfl rfl rfl rfl (raI rfl rfl rfl rfl rfl (rNil ?_))))))))))))
   refine qSeq (wRet ?_)
   exact ⟨a1, ⟨by omega, fun h => ⟨by omega, fun j hj => hI.2.2.2 j (by omega)⟩⟩, fin rfl rfl⟩
theorem s9 (n1 n2 b : Bool) (t : Tb) (k : Int) (hk : 0 ≤ k ∧ k ≤ 1048576) (hm : t.lk.length ≤ 9223372036854775807) (hs : ∀ i, i < t.lk.length → (t.lk.getD i Lk0).nm.size ≤ 9223372036854775807 ∧ (t.lk.getD i Lk0).ws.length ≤ 9223372036854775807) (ha : t.sn.length ≤ 9223372036854775807) : ∃ x : Int, ((-1 ≤ x ∧ x ≤ k) ∧ (0 ≤ x → (t.lk.length : Int) ≤ k ∧ (∀ j, j < t.lk.length → ((t.lk.getD j Lk0).ws.length : Int) ≤ k) ∧ (t.sn.length : Int) ≤ k)) ∧ Pure En 9 [.agg (t.T b n1 n2), .one (.int .i64 k)] [.one (.int .i64 x)] := by
 refine Pure.of_wpX Try.func9 rfl (Nat.le_of_ble_eq_true rfl) ?_
 refine wSeq (wRegion (rbx (u := .agg [.int _ _, .int _ _, _, _]) rfl rfl rfl rfl rfl rfl rfl (raI rfl rfl rfl rfl rfl (rNil (qSeq (wSeq (wRegion (rfa (off := 2) (s := 1) (r := false) rfl rfl rfl (Nat.succ_ne_zero _) rfl rfl rfl ?_))))))))
 (apply rlc (v := .sl _ _ _) rfl rfl; exact Q0; rfl; rfl; rfl; rfl; rfl; rfl)
 refine rmI rfl rfl rfl rfl rfl (rclX (s40 n1 b t.lk k hk hm hs) rfl rfl rfl rfl rfl rfl ?_)
 rintro y h1_3
 try dsimp only at h1_3
 refine raI rfl rfl rfl rfl rfl (rNil (qSeq (wSeq (wSeq (wRegion (rmI rfl rfl rfl rfl rfl ?_))))))
 refine rlt rfl rfl rfl rfl rfl rfl ?_ ?_ <;> intro h2_1
 ·refine rNil (qSeq (wT rfl (wSeq (wRegion (raI rfl rfl rfl rfl rfl (rNil (qSeq (wRet (qSeqR ?_)))))))))
  exact ⟨-1, ⟨by omega, fun h => by omega⟩, fin rfl rfl⟩
 ·refine rNil (qSeq (wF rfl (wSkip (qSeq (wSeq (wRegion (rfa (off := 3) (s := 1) (r := false) rfl rfl rfl (Nat.succ_ne_zero _) rfl rfl rfl ?_)))))))
  (apply rlc (v := .sl _ _ _) rfl rfl; exact Q0; rfl; rfl; rfl; rfl; rfl; rfl)
  refine rmI rfl rfl rfl rfl rfl (rcl (s41 n2 t.sn y (by omega) ha) rfl rfl rfl rfl rfl rfl ?_)
  refine raI rfl rfl rfl rfl rfl (rNil (qSeq (wSeq (wSeq (wRegion (rmI rfl rfl rfl rfl rfl ?_))))))
  refine rlt rfl rfl rfl rfl rfl rfl ?_ ?_ <;> intro h5_1
  ·refine rNil (qSeq (wT rfl (wSeq (wRegion (raI rfl rfl rfl rfl rfl (rNil (qSeq (wRet (qSeqR ?_)))))))))
   exact ⟨-1, ⟨by omega, fun h => by omega⟩, fin rfl rfl⟩
  ·refine rNil (qSeq (wF rfl (wSkip (qSeq (wSeq (wRegion (rmI rfl rfl rfl rfl rfl (raI rfl rfl rfl rfl rfl (rNil (qSeq (wRet ?_)))))))))))
   have e1 := szv_le (k := y) (m := t.sn.length) (by omega)
   have e2 : 0 ≤ szv y t.sn.length → (t.sn.length : Int) ≤ y := fun h => by unfold szv at h; split at h <;> omega
   exact ⟨szv y t.sn.length, ⟨by omega, fun h => ⟨(h1_3.2 (by omega)).1, (h1_3.2 (by omega)).2, by have := e2 h; omega⟩⟩, fin rfl rfl⟩
open Go.V
set_option linter.unusedVariables false
set_option linter.unusedSimpArgs false
set_option maxRecDepth 20000
set_option maxHeartbeats 4000000
theorem strOf_size (l : List Int) : (strOf l).size = l.length := by
 simp [strOf, ByteArray.size]
theorem qd {a : Int} (h0 : 0 < a) (h1 : a ≤ 1152921504606846976) : 0 ≤ IntKind.i64.wrap (a.tdiv 10) ∧ IntKind.i64.wrap (a.tdiv 10) < a := by
 rw [Int.tdiv_eq_ediv_of_nonneg (by omega), wrap_i64 (by omega) (by omega)]; omega
theorem rd {a : Int} (h0 : 0 < a) (h1 : a ≤ 1152921504606846976) : 0 ≤ a.tmod 10 ∧ a.tmod 10 ≤ 9 := by
 rw [Int.tmod_eq_emod_of_nonneg (by omega)]; omega
theorem s94 (k : Int) (hk : 0 ≤ k ∧ k ≤ 1152921504606846976) : ∃ s : ByteArray, True ∧ Pure En 94 [.one (.int .i64 k)] [.one (.str s)] := by
 refine Pure.of_wpX Try.func94 rfl (Nat.le_of_ble_eq_true rfl) ?_
 refine wSeq (wRegion (raS rfl rfl rfl rfl rfl (rNil (qSeq (wSeq (wSeq (wRegion (rmI rfl rfl rfl rfl rfl ?_))))))))
 refine rle rfl rfl rfl rfl rfl rfl ?_ ?_ <;> intro h1_1
 ·refine rNil (qSeq (wT rfl (wSeq (wRegion (raS rfl rfl rfl rfl rfl (rNil (qSeq (wRet (qSeqR ?_)))))))))
  first | exact ⟨_, trivial, fin rfl rfl⟩
 ·refine rNil (qSeq (wF rfl (wSkip (qSeq (wSeq (wRegion (raS rfl rfl rfl rfl rfl (rNil (qSeq (wSeq (wBlock (wLoop ?_))))))))))))
  refine loopGo (fun (a : Int × ByteArray × Nat) => [.int .i64 a.1, .unk, .unk, .str a.2.1]) (fun (a : Int × ByteArray × Nat) => hp []) (fun (a : Int × ByteArray × Nat) => a.2.2) (fun (a : Int × ByteArray × Nat) => 0 ≤ a.1 ∧ (a.2.1.size : Int) + a.1 ≤ k) (fun (a : Int × ByteArray × Nat) => a.1.toNat) (k, ⟨#[]⟩, 0) ?_ ?_ ?_ ?_ ?_
  ·exact ⟨by dsimp only; omega, by show ((0 : Nat) : Int) + k ≤ k; omega⟩
  ·(repeat first | exact LE.nil _ | refine LE.unk _ _ ?_ | refine LE.eq _ _ _ rfl ?_)
  ·exact lessH0
  ·exact Nat.le_refl _
  intro ⟨x, s, m⟩ hI ih
  dsimp only at hI ⊢
  have hq := fun h0 => qd (a := x) h0 (by omega)
  have hr := fun h0 => rd (a := x) h0 (by omega)
  refine lStep (wSeq (wSeq (wRegion (rmI rfl rfl rfl rfl rfl ?_))))
  refine rgt rfl rfl rfl rfl rfl rfl ?_ ?_ <;> intro h4_1
  ·refine rNil (qSeq (wT rfl (wSkip (qSeq (wBlock (wSeq (wRegion (rmI rfl rfl rfl rfl rfl (rrem rfl rfl rfl ?_ rfl rfl rfl ?_)))))))))
   ·exact Q31
   (have hr1 := hr (by omega); refine raddF rfl rfl rfl ?_ ?_ rfl rfl rfl ?_; omega; omega)
   refine rcv rfl rfl rfl rfl rfl rfl rfl (rbs (es := [[.int _ _]]) rfl rfl rfl rfl (Nat.succ_ne_zero _) (Nat.le_of_ble_eq_true rfl) rfl rfl rfl rfl rfl ?_)
   (apply rsg rfl rfl rfl rfl; (apply srcView rfl; exact Q0; (first | exact Nat.le_refl _ | omega | (simp; omega)); rfl); (intro s e; cases e); exact (show _ = List.map (fun b => [V.int .u8 b]) [_] from rfl); rfl; rfl; rfl)
   refine rmS rfl rfl rfl rfl rfl (rcat rfl rfl rfl ?_ rfl rfl rfl ?_)
   ·exact Q31
   refine raS rfl rfl rfl rfl rfl (rNil (qSeq (wRegion (rmI rfl rfl rfl rfl rfl (rquo rfl rfl rfl ?_ rfl rfl rfl ?_)))))
   ·exact Q31
   refine raI rfl rfl rfl rfl rfl (rNil (qBlock (qLoop ?_)))
   have hq1 := hq (by omega)
   exact wlH (ih (IntKind.i64.wrap (x.tdiv 10), strOf [IntKind.u8.wrap (48 + x.tmod 10)] ++ s, m + 1) ⟨by dsimp only; omega, by dsimp only; rw [ByteArray.size_append, strOf_size]; show (((1 + s.size : Nat)) : Int) + _ ≤ _; omega⟩ (by dsimp only; omega)) (by (repeat first | exact LE.nil _ | refine LE.unk _ _ ?_ | refine LE.eq _ _ _ rfl ?_)) lessH0 (Nat.le_refl _)
  ·refine rNil (qSeq (wF rfl (wExit (qSeqX (qLoopX (qBlockX (qSeq (wSeq (wRegion (rmS rfl rfl rfl rfl rfl (rcat rfl rfl rfl ?_ rfl rfl rfl ?_)))))))))))
   ·exact Q31
   refine raS rfl rfl rfl rfl rfl (rNil (qSeq (wRet ?_)))
   first | exact ⟨_, trivial, fin rfl rfl⟩
theorem mt_ex (k : Int) : ∃ s : ByteArray, 0 ≤ k ∧ k ≤ 1152921504606846976 → Pure En 94 [.one (.int .i64 k)] [.one (.str s)] := by
 by_cases h : 0 ≤ k ∧ k ≤ 1152921504606846976
 ·obtain ⟨s, _, h2⟩ := s94 k h; exact ⟨s, fun _ => h2⟩
 ·exact ⟨⟨#[]⟩, fun h' => absurd h' h⟩
noncomputable def Mt (k : Int) : ByteArray := Classical.choose (mt_ex k)
theorem q94 (k : Int) (h : 0 ≤ k ∧ k ≤ 1152921504606846976) : Pure En 94 [.one (.int .i64 k)] [.one (.str (Mt k))] := Classical.choose_spec (mt_ex k) h
def mWt (y : Int) : Wt := (y, y + 1)
def mSn (y : Int) : Sn := ⟨y, y + 1, ⟨y + 1 + 1, y + 1 + 1 + 1, y + 1 + 1 + 1 + 1, y + 1 + 1 + 1 + 1 + 1⟩⟩
def MW (k : Int) (m : Nat) : List Wt := (List.range m).map fun (j : Nat) => mWt (k + 2 * (j : Int))
def MS (k : Int) (m : Nat) : List Sn := (List.range m).map fun (j : Nat) => mSn (k + 6 * (j : Int))
theorem MW_len (k : Int) (m : Nat) : (MW k m).length = m := by simp [MW]
theorem MS_len (k : Int) (m : Nat) : (MS k m).length = m := by simp [MS]
theorem MW_get {k : Int} {m i : Nat} (h : i < m) : (MW k m).getD i (0, 0) = mWt (k + 2 * (i : Int)) := by simp [MW, List.getD_eq_getElem?_getD, h]
theorem MS_get {k : Int} {m i : Nat} (h : i < m) : (MS k m).getD i Sn0 = mSn (k + 6 * (i : Int)) := by simp [MS, List.getD_eq_getElem?_getD, h]
def mix {α : Type} (A L : List α) (i : Nat) : List α := A.take i ++ L.drop i
theorem mix_zero {α : Type} (A L : List α) : mix A L 0 = L := by simp [mix]
theorem mix_full {α : Type} {A L : List α} (h : A.length = L.length) : mix A L L.length = A := by
 unfold mix; rw [List.drop_length, List.append_nil, ← h, List.take_length]
theorem mix_len {α : Type} {A L : List α} {i : Nat} (h : A.length = L.length) (hi : i ≤ L.length) : (mix A L i).length = L.length := by
 simp [mix]; omega
theorem mix_set {α : Type} (f : α → List V) (d : α) {A L : List α} {i : Nat} {z : List V} (h : A.length = L.length) (hi : i < L.length) (hz : f (A.getD i d) = z) : ((mix A L i).map f).set (0 + i) z = (mix A L (i + 1)).map f := by
 subst hz
 have e1 : (A.take i).length = i := by simp; omega
 have e2 : L.drop i = L.getD i d :: L.drop (i + 1) := by
  rw [List.getD_eq_getElem?_getD, List.getElem?_eq_getElem hi, Option.getD_some, List.drop_eq_getElem_cons hi]
 have e3 : A.take (i + 1) = A.take i ++ [A.getD i d] := by
  rw [List.take_add_one]; simp [show i < A.length by omega]
 have e4 : ((A.take i).map f).length = i := by rw [List.length_map, e1]
 unfold mix
 rw [e2, List.map_append, Nat.zero_add, List.set_append_right _ _ (by omega), e4, Nat.sub_self, e3, List.map_cons, List.set_cons_zero, List.map_append, List.map_append, List.append_assoc]
 rfl
theorem getM {α : Type} (f : α → List V) (d : α) {X : List α} {i : Nat} (h : i < X.length) : (X.map f)[0 + i]? = some (f (X.getD i d)) := by
 rw [Nat.zero_add]; exact getMap f d h
theorem gsS {es : List (List V)} {i : Nat} {x : List V} (h : i < es.length) : (es.set (0 + i) x)[0 + i]? = some x := by
 rw [Nat.zero_add]; exact List.getElem?_set_self h
theorem mix_get {α : Type} {A L : List α} (d : α) {i j : Nat} (h : A.length = L.length) (hi : i ≤ L.length) : (mix A L i).getD j d = if j < i then A.getD j d else L.getD j d := by
 unfold mix
 rw [List.getD_eq_getElem?_getD]
 split
 ·rename_i hj
  rw [List.getElem?_append_left (by simp; omega), List.getElem?_take_of_lt hj, ← List.getD_eq_getElem?_getD]
 ·rename_i hj
  rw [List.getElem?_append_right (by simp; omega), List.getElem?_drop, List.length_take, ← List.getD_eq_getElem?_getD]
  congr 1; omega
theorem o54 (L : List Sn) (k : Int) (hk : 0 ≤ k ∧ k ≤ 1125899906842624) (hL : L.length ≤ 1048577) {id : Nat} {h : Heap} {n : Nat} (hid : id < n) (k1 : h id = some ⟨L.map Sn.V, 6, 115⟩) :
  V.Open En 54 [.view id 0 L.length, .int .i64 k] h n (.int .i64 (k + 6 * (L.length : Int))) [(id, some ⟨(MS k L.length).map Sn.V, 6, 115⟩)] n := by
 have hMl : (MS k L.length).length = L.length := MS_len k L.length
 refine V.Open.fresh rfl (Nat.le_refl _) fun hz => ?_
 refine V.Open.of_wp Try.func54 rfl (Nat.le_of_ble_eq_true rfl) ?_
 refine wSeq (wRegion (raI rfl rfl rfl rfl rfl (rNil (qSeq (wSeq (wSeq (wRegion (raI rfl rfl rfl rfl rfl (rNil (qSeq (wBlock (wLoop ?_))))))))))))
 refine loopGo (fun (a : Nat × Int) => [.view id 0 L.length, .int .i64 a.2, .unk, .unk, .unk, .int .i64 a.1]) (fun (a : Nat × Int) => app [(id, some ⟨(mix (MS k L.length) L a.1).map Sn.V, 6, 115⟩)] h) (fun (a : Nat × Int) => n) (fun (a : Nat × Int) => a.1 ≤ L.length ∧ a.2 = k + 6 * (a.1 : Int)) (fun (a : Nat × Int) => L.length - a.1) (0, k) ?_ ?_ ?_ ?_ ?_
 ·exact ⟨Nat.zero_le _, by dsimp only; omega⟩
 ·(repeat first | exact LE.nil _ | refine LE.unk _ _ ?_ | refine LE.eq _ _ _ rfl ?_)
 ·dsimp only
  refine lessApp (n := n) hz (fun jx hj => ?_) (fun jx hl hn => ?_)
  ·simp only [List.map_cons, List.map_nil, List.mem_cons, List.not_mem_nil, or_false] at hj
   rcases hj with rfl <;> (simp (disch := omega) only [↓app0, ↓appC, ↓updS, ↓updN, ↓hpS, ↓hpN]) <;> first | rfl | assumption | exact k1.trans (by rw [mix_zero])
  ·simp only [List.map_cons, List.map_nil, List.mem_cons, List.not_mem_nil, or_false, not_or] at hn
   (simp (disch := omega) only [↓app0, ↓appC, ↓updS, ↓updN, ↓hpS, ↓hpN])
 ·exact Nat.le_refl _
 intro ⟨i, y⟩ hI ih
 dsimp only at hI ⊢
 have hml := mix_len (i := i) hMl hI.1
 have hx : i < L.length → (MS k L.length).getD i Sn0 = mSn y := fun h => by rw [MS_get h, hI.2]
 refine lStep (wSeq (wSeq (wRegion (rmI rfl rfl rfl rfl rfl (rmV rfl rfl rfl rfl rfl (rll rfl rfl rfl rfl rfl rfl ?_))))))
 refine rlt rfl rfl rfl rfl rfl rfl ?_ ?_ <;> intro h2_3
 ·refine rNil (qSeq (wT rfl (wSkip (qSeq (wSeq (wBlock (wSeq (wRegion (rmV rfl rfl rfl rfl rfl (rmI rfl rfl rfl rfl rfl (rmI rfl rfl rfl rfl rfl ?_)))))))))))
  (apply rixv rfl rfl rfl rfl; exact Q0; rfl; exact Q5; exact Q5; rfl; rfl; rfl)
  refine rfa (off := 0) (s := 1) (r := false) rfl rfl rfl (Nat.succ_ne_zero _) rfl rfl rfl ?_
  (apply rst (u := .int _ _) rfl rfl rfl; exact Q0; exact getM Sn.V Sn0 (by rw [hml]; omega); rfl; rfl; rfl; rfl; (exact Nat.le_of_ble_eq_true rfl); rfl; rfl; rfl)
  refine rNil (qSeq (wSeq (wRegion (rmI rfl rfl rfl rfl rfl (raddF rfl rfl rfl ?_ ?_ rfl rfl rfl ?_)))))
  ·omega
  ·omega
  refine raI rfl rfl rfl rfl rfl (rNil (qSeq (wSeq (wRegion (rmV rfl rfl rfl rfl rfl (rmI rfl rfl rfl rfl rfl (rmI rfl rfl rfl rfl rfl ?_)))))))
  (apply rixv rfl rfl rfl rfl; exact Q0; rfl; exact Q5; exact Q5; rfl; rfl; rfl)
  refine rfa (off := 1) (s := 1) (r := false) rfl rfl rfl (Nat.succ_ne_zero _) rfl rfl rfl ?_
  (apply rst (u := .int _ _) rfl rfl rfl; exact Q0; exact gsS (by simp only [List.length_set, List.length_map]; rw [hml]; omega); rfl; rfl; rfl; rfl; (exact Nat.le_of_ble_eq_true rfl); rfl; rfl; rfl)
  refine rNil (qSeq (wSeq (wRegion (rmI rfl rfl rfl rfl rfl (raddF rfl rfl rfl ?_ ?_ rfl rfl rfl ?_)))))
  ·omega
  ·omega
  refine raI rfl rfl rfl rfl rfl (rNil (qSeq (wSeq (wRegion (rmV rfl rfl rfl rfl rfl (rmI rfl rfl rfl rfl rfl (rmI rfl rfl rfl rfl rfl ?_)))))))
  (apply rixv rfl rfl rfl rfl; exact Q0; rfl; exact Q5; exact Q5; rfl; rfl; rfl)
  refine rfa (off := 2) (s := 4) (r := true) rfl rfl rfl (Nat.succ_ne_zero _) rfl rfl rfl (rfa (off := 0) (s := 1) (r := false) rfl rfl rfl (Nat.succ_ne_zero _) rfl rfl rfl ?_)
  (apply rst (u := .int _ _) rfl rfl rfl; exact Q0; exact gsS (by simp only [List.length_set, List.length_map]; rw [hml]; omega); rfl; rfl; rfl; rfl; (exact Nat.le_of_ble_eq_true rfl); rfl; rfl; rfl)
  refine rNil (qSeq (wSeq (wRegion (rmI rfl rfl rfl rfl rfl (raddF rfl rfl rfl ?_ ?_ rfl rfl rfl ?_)))))
  ·omega
  ·omega
  refine raI rfl rfl rfl rfl rfl (rNil (qSeq (wSeq (wRegion (rmV rfl rfl rfl rfl rfl (rmI rfl rfl rfl rfl rfl (rmI rfl rfl rfl rfl rfl ?_)))))))
  (apply rixv rfl rfl rfl rfl; exact Q0; rfl; exact Q5; exact Q5; rfl; rfl; rfl)
  refine rfa (off := 2) (s := 4) (r := true) rfl rfl rfl (Nat.succ_ne_zero _) rfl rfl rfl (rfa (off := 1) (s := 1) (r := false) rfl rfl rfl (Nat.succ_ne_zero _) rfl rfl rfl ?_)
  (apply rst (u := .int _ _) rfl rfl rfl; exact Q0; exact gsS (by simp only [List.length_set, List.length_map]; rw [hml]; omega); rfl; rfl; rfl; rfl; (exact Nat.le_of_ble_eq_true rfl); rfl; rfl; rfl)
  refine rNil (qSeq (wSeq (wRegion (rmI rfl rfl rfl rfl rfl (raddF rfl rfl rfl ?_ ?_ rfl rfl rfl ?_)))))
  ·omega
  ·omega
  refine raI rfl rfl rfl rfl rfl (rNil (qSeq (wSeq (wRegion (rmV rfl rfl rfl rfl rfl (rmI rfl rfl rfl rfl rfl (rmI rfl rfl rfl rfl rfl ?_)))))))
  (apply rixv rfl rfl rfl rfl; exact Q0; rfl; exact Q5; exact Q5; rfl; rfl; rfl)
  refine rfa (off := 2) (s := 4) (r := true) rfl rfl rfl (Nat.succ_ne_zero _) rfl rfl rfl (rfa (off := 2) (s := 1) (r := false) rfl rfl rfl (Nat.succ_ne_zero _) rfl rfl rfl ?_)
  (apply rst (u := .int _ _) rfl rfl rfl; exact Q0; exact gsS (by simp only [List.length_set, List.length_map]; rw [hml]; omega); rfl; rfl; rfl; rfl; (exact Nat.le_of_ble_eq_true rfl); rfl; rfl; rfl)
  refine rNil (qSeq (wSeq (wRegion (rmI rfl rfl rfl rfl rfl (raddF rfl rfl rfl ?_ ?_ rfl rfl rfl ?_)))))
  ·omega
  ·omega
  refine raI rfl rfl rfl rfl rfl (rNil (qSeq (wSeq (wRegion (rmV rfl rfl rfl rfl rfl (rmI rfl rfl rfl rfl rfl (rmI rfl rfl rfl rfl rfl ?_)))))))
  (apply rixv rfl rfl rfl rfl; exact Q0; rfl; exact Q5; exact Q5; rfl; rfl; rfl)
  refine rfa (off := 2) (s := 4) (r := true) rfl rfl rfl (Nat.succ_ne_zero _) rfl rfl rfl (rfa (off := 3) (s := 1) (r := false) rfl rfl rfl (Nat.succ_ne_zero _) rfl rfl rfl ?_)
  (apply rst (u := .int _ _) rfl rfl rfl; exact Q0; exact gsS (by simp only [List.length_set, List.length_map]; rw [hml]; omega); rfl; rfl; rfl; rfl; (exact Nat.le_of_ble_eq_true rfl); rfl; rfl; rfl)
  refine rNil (qSeq (wRegion (rmI rfl rfl rfl rfl rfl (raddF rfl rfl rfl ?_ ?_ rfl rfl rfl ?_))))
  ·omega
  ·omega
  refine raI rfl rfl rfl rfl rfl (rNil (qBlock (qSeq (wRegion (rmI rfl rfl rfl rfl rfl (raddF rfl rfl rfl ?_ ?_ rfl rfl rfl ?_))))))
  ·omega
  ·omega
  refine raI rfl rfl rfl rfl rfl (rNil (qLoop ?_))
  exact wlH (ih (i + 1, y + 1 + 1 + 1 + 1 + 1 + 1) ⟨by dsimp only; omega, by dsimp only; omega⟩ (by dsimp only; omega)) (by (repeat first | exact LE.nil _ | refine LE.unk _ _ ?_ | refine LE.eq _ _ _ rfl ?_)) (by
   dsimp only
   refine lessApp (n := n) hz (fun jx hj => ?_) (fun jx hl hn => ?_)
   ·simp only [List.map_cons, List.map_nil, List.mem_cons, List.not_mem_nil, or_false] at hj
    rcases hj with rfl <;> (simp (disch := omega) only [↓app0, ↓appC, ↓updS, ↓updN, ↓hpS, ↓hpN]) <;> first | rfl | assumption | (refine congrArg (fun z => some (Blk.mk z 6 115)) ?_; simp only [List.set_set]; exact mix_set Sn.V Sn0 hMl (by omega) (by rw [hx (by omega)]; rfl))
   ·simp only [List.map_cons, List.map_nil, List.mem_cons, List.not_mem_nil, or_false, not_or] at hn
    (simp (disch := omega) only [↓app0, ↓appC, ↓updS, ↓updN, ↓hpS, ↓hpN])) (Nat.le_refl _)
 ·refine rNil (qSeq (wF rfl (wExit (qSeqX (qLoopX (qBlockX (qSeq (wSeq (wRegion (rmI rfl rfl rfl rfl rfl (raI rfl rfl rfl rfl rfl (rNil ?_))))))))))))
  refine qSeq (wRet ?_)
  obtain rfl : i = L.length := by omega
  exact finO rfl (congrArg (V.int .i64) hI.2) (leWr (by
   intro j hj
   simp only [List.map_cons, List.map_nil, List.mem_cons, List.not_mem_nil, or_false] at hj
   rcases hj with rfl <;> (simp (disch := omega) only [↓app0, ↓appC, ↓updS, ↓updN, ↓hpS, ↓hpN]) <;> first | rfl | (exact congrArg (fun z => some (Blk.mk z 6 115)) (congrArg (List.map Sn.V) (mix_full hMl)))) (fun j hj hn => by
   simp only [List.map_cons, List.map_nil, List.mem_cons, List.not_mem_nil, or_false, not_or] at hn
   (simp (disch := omega) only [↓app0, ↓appC, ↓updS, ↓updN, ↓hpS, ↓hpN]) <;> rfl)) (Nat.le_refl _)
theorem s56 (nn : Bool) (k : Int) (m : Nat) (hk : 0 ≤ k ∧ k ≤ 1125899906842624) (hm : m ≤ 1048577) : Pure En 56 [.one (.sl nn ((MW k m).map wtT)), .one (.int .i64 k)] [.one (.int .i64 (k + 2 * (m : Int)))] := by
 have hl : ((MW k m).map wtT).length = m := by rw [List.length_map, MW_len]
 refine Pure.of_wp Try.func56 rfl (Nat.le_of_ble_eq_true rfl) ?_
 refine wSeq (wRegion (raI rfl rfl rfl rfl rfl (rNil (qSeq (wSeq (wSeq (wRegion (raI rfl rfl rfl rfl rfl (rNil (qSeq (wBlock (wLoop ?_))))))))))))
 refine loopGo0 (fun (a : Nat × Int) => [.sl false nn ((MW k m).map wtT), .int .i64 a.2, .unk, .unk, .unk, .int .i64 a.1]) (fun (a : Nat × Int) => a.1 ≤ m ∧ a.2 = k + 2 * (a.1 : Int)) (fun (a : Nat × Int) => m - a.1) (0, k) ?_ ?_ ?_
 ·exact ⟨Nat.zero_le _, by dsimp only; omega⟩
 ·(repeat first | exact LE.nil _ | refine LE.unk _ _ ?_ | refine LE.eq _ _ _ rfl ?_)
 intro ⟨i, y⟩ hI ih
 dsimp only at hI ⊢
 have hx : i < m → ((MW k m).map wtT)[i]? = some (wtT (mWt y)) := fun h => by
  rw [getMap wtT (0, 0) (show i < (MW k m).length by rw [MW_len]; exact h), MW_get h, hI.2]
 refine lStep (wSeq (wSeq (wRegion (rmI rfl rfl rfl rfl rfl (rmL rfl rfl rfl rfl rfl (rll rfl rfl rfl rfl rfl rfl ?_))))))
 refine rlt rfl rfl rfl rfl rfl rfl ?_ ?_ <;> intro h2_3
 ·refine rNil (qSeq (wT rfl (wSkip (qSeq (wSeq (wBlock (wSeq (wSeq (wRegion (rmL rfl rfl rfl rfl rfl (rmI rfl rfl rfl rfl rfl ?_)))))))))))
  (apply rixl rfl rfl rfl rfl; exact Q5; exact Q35; rfl; rfl; rfl; rfl)
  refine rfai (off := 0) (s := 1) (r := false) rfl rfl rfl (Nat.succ_ne_zero _) rfl rfl rfl rfl (rlic (v := .int _ _) rfl rfl rfl rfl rfl rfl rfl rfl (rmI rfl rfl rfl rfl rfl ?_))
  refine rne rfl rfl rfl rfl rfl rfl (fun h => absurd h ((fun hh => hh rfl))) ?_
  intro h4_6
  refine rNil (qSeq (wF rfl (wSkip (qSeq (wSeq (wRegion (rmI rfl rfl rfl rfl rfl (raddF rfl rfl rfl ?_ ?_ rfl rfl rfl ?_))))))))
  ·omega
  ·omega
  refine raI rfl rfl rfl rfl rfl (rNil (qSeq (wSeq (wSeq (wRegion (rmL rfl rfl rfl rfl rfl (rmI rfl rfl rfl rfl rfl ?_)))))))
  (apply rixl rfl rfl rfl rfl; exact Q5; exact Q35; rfl; rfl; rfl; rfl)
  refine rfai (off := 1) (s := 1) (r := false) rfl rfl rfl (Nat.succ_ne_zero _) rfl rfl rfl rfl (rlic (v := .int _ _) rfl rfl rfl rfl rfl rfl rfl rfl (rmI rfl rfl rfl rfl rfl ?_))
  refine rne rfl rfl rfl rfl rfl rfl (fun h => absurd h ((fun hh => hh rfl))) ?_
  intro h7_6
  refine rNil (qSeq (wF rfl (wSkip (qSeq (wRegion (rmI rfl rfl rfl rfl rfl (raddF rfl rfl rfl ?_ ?_ rfl rfl rfl ?_)))))))
  ·omega
  ·omega
  refine raI rfl rfl rfl rfl rfl (rNil (qBlock (qSeq (wRegion (rmI rfl rfl rfl rfl rfl (raddF rfl rfl rfl ?_ ?_ rfl rfl rfl ?_))))))
  ·omega
  ·omega
  refine raI rfl rfl rfl rfl rfl (rNil (qLoop ?_))
  exact wlN (ih (i + 1, y + 1 + 1) ⟨by dsimp only; omega, by dsimp only; omega⟩ (by dsimp only; omega)) (by (repeat first | exact LE.nil _ | refine LE.unk _ _ ?_ | refine LE.eq _ _ _ rfl ?_))
 ·refine rNil (qSeq (wF rfl (wExit (qSeqX (qLoopX (qBlockX (qSeq (wSeq (wRegion (rmI rfl rfl rfl rfl rfl (raI rfl rfl rfl rfl rfl (rNil ?_))))))))))))
  refine qSeq (wRet ?_)
  obtain rfl : i = m := by omega
  exact finE rfl rfl (by rw [hI.2])
open Go.V
set_option linter.unusedVariables false
set_option linter.unusedSimpArgs false
set_option maxRecDepth 20000
set_option maxHeartbeats 4000000
def kL (k : Int) : List Lk → Int
 | [] => k
 | l :: r => kL (k + 4 + 2 * (l.ws.length : Int)) r
theorem kL_snoc (k : Int) : ∀ (L : List Lk) (l : Lk), kL k (L ++ [l]) = kL k L + 4 + 2 * (l.ws.length : Int)
 | [], l => rfl
 | a :: r, l => kL_snoc (k + 4 + 2 * (a.ws.length : Int)) r l
theorem kL_take {k : Int} {L : List Lk} {i : Nat} (h : i < L.length) : kL k (L.take (i + 1)) = kL k (L.take i) + 4 + 2 * ((L.getD i Lk0).ws.length : Int) := by
 have e3 : L.take (i + 1) = L.take i ++ [L.getD i Lk0] := by rw [List.take_add_one]; simp [h]
 rw [e3, kL_snoc]
noncomputable def mLk (y : Int) (m : Nat) : Lk := ⟨Mt y, y + 1, y + 1 + 1, y + 1 + 1 + 1, MW (y + 1 + 1 + 1 + 1) m⟩
noncomputable def ML (k : Int) (L : List Lk) : List Lk := (List.range L.length).map fun i => mLk (kL k (L.take i)) (L.getD i Lk0).ws.length
theorem ML_len (k : Int) (L : List Lk) : (ML k L).length = L.length := by simp [ML]
theorem ML_get {k : Int} {L : List Lk} {i : Nat} (h : i < L.length) : (ML k L).getD i Lk0 = mLk (kL k (L.take i)) (L.getD i Lk0).ws.length := by simp [ML, List.getD_eq_getElem?_getD, h]
theorem mixL {k : Int} {L : List Lk} {i j : Nat} (hi : i ≤ L.length) : (mix (ML k L) L i).getD j Lk0 = if j < i then (ML k L).getD j Lk0 else L.getD j Lk0 := mix_get Lk0 (ML_len k L) hi
theorem mixSame {k : Int} {L : List Lk} {i : Nat} (h : i < L.length) : (mix (ML k L) L i).getD i Lk0 = L.getD i Lk0 := by rw [mixL (by omega), if_neg (Nat.lt_irrefl _)]
open Go.V
set_option linter.unusedVariables false
set_option linter.unusedSimpArgs false
set_option maxRecDepth 20000
set_option maxHeartbeats 4000000
theorem kL_bd {k : Int} : ∀ {L : List Lk}, (∀ i, i < L.length → (L.getD i Lk0).ws.length ≤ 1048577) → k ≤ kL k L ∧ kL k L ≤ k + 2097160 * (L.length : Int)
 | [], _ => by unfold kL; constructor <;> simp
 | l :: r, h => by
  have h0 := h 0 (by simp)
  have ih := kL_bd (k := k + 4 + 2 * (l.ws.length : Int)) (L := r) (fun i hi => by simpa using h (i + 1) (by simpa using hi))
  unfold kL
  simp at h0
  rw [List.length_cons]
  omega
open Go.V
set_option linter.unusedVariables false
set_option linter.unusedSimpArgs false
set_option maxRecDepth 20000
set_option maxHeartbeats 4000000
theorem o90 (fr : Bool) (L : List Sn) (hL : L.length ≤ 1048576) {h : Heap} {n : Nat} : V.Open En 90 [.sl fr true (L.map Sn.T)] h n (.view (n + 1) 0 L.length) [(n + 1, some ⟨L.map Sn.V, 6, 115⟩)] (n + 2) := by
 refine V.Open.of_wp Try.func90 rfl (Nat.le_of_ble_eq_true rfl) ?_
 refine wSeq (wRegion (raN rfl rfl rfl rfl rfl (rNil (qSeq (wSeq (wSeq (wRegion (rmL rfl rfl rfl rfl rfl (rnil (c := false) rfl rfl rfl rfl rfl rfl (rNil (qSeq (wF rfl ?_))))))))))))
 refine wSkip (qSeq (wSeq (wRegion (rbs (es := []) rfl rfl rfl rfl (Nat.succ_ne_zero _) (Nat.le_of_ble_eq_true rfl) rfl rfl rfl rfl rfl (rmL rfl rfl rfl rfl rfl ?_)))))
 (apply rap (s' := 48) rfl rfl; exact Q0; rfl; rfl; rfl; rfl; rfl; exact (Nat.succ_ne_zero _); rfl; exact (lenSnF fr L); (simp only [List.length_map]; omega); (simp only [List.length_map]; omega); rfl; rfl; rfl)
 refine raV rfl rfl rfl rfl rfl (rNil (qSeq (wRet ?_)))
 exact finO rfl (congrArg (V.view (n + 1) 0) (by simp)) (leWr (by
  intro j hj
  simp only [List.map_cons, List.map_nil, List.mem_cons, List.not_mem_nil, or_false] at hj
  rcases hj with rfl <;> (simp (disch := omega) only [↓app0, ↓appC, ↓updS, ↓updN, ↓hpS, ↓hpN]) <;> first | rfl | (exact congrArg (fun z => some (Blk.mk z 6 115)) (rowsSnV fr L))) (fun j hj hn => by
  simp only [List.map_cons, List.map_nil, List.mem_cons, List.not_mem_nil, or_false, not_or] at hn
  (simp (disch := omega) only [↓app0, ↓appC, ↓updS, ↓updN, ↓hpS, ↓hpN]) <;> rfl)) (Nat.le_refl _)
theorem o91 (fr : Bool) (L : List Wt) (hL : L.length ≤ 1048576) {h : Heap} {n : Nat} : V.Open En 91 [.sl fr true (L.map wtT)] h n (.view (n + 1) 0 L.length) [(n + 1, some ⟨L.map wtV, 2, 123⟩)] (n + 2) := by
 refine V.Open.of_wp Try.func91 rfl (Nat.le_of_ble_eq_true rfl) ?_
 refine wSeq (wRegion (raN rfl rfl rfl rfl rfl (rNil (qSeq (wSeq (wSeq (wRegion (rmL rfl rfl rfl rfl rfl (rnil (c := false) rfl rfl rfl rfl rfl rfl (rNil (qSeq (wF rfl ?_))))))))))))
 refine wSkip (qSeq (wSeq (wRegion (rbs (es := []) rfl rfl rfl rfl (Nat.succ_ne_zero _) (Nat.le_of_ble_eq_true rfl) rfl rfl rfl rfl rfl (rmL rfl rfl rfl rfl rfl ?_)))))
 (apply rap (s' := 16) rfl rfl; exact Q0; rfl; rfl; rfl; rfl; rfl; exact (Nat.succ_ne_zero _); rfl; exact (lenWtF fr L); (simp only [List.length_map]; omega); (simp only [List.length_map]; omega); rfl; rfl; rfl)
 refine raV rfl rfl rfl rfl rfl (rNil (qSeq (wRet ?_)))
 exact finO rfl (congrArg (V.view (n + 1) 0) (by simp)) (leWr (by
  intro j hj
  simp only [List.map_cons, List.map_nil, List.mem_cons, List.not_mem_nil, or_false] at hj
  rcases hj with rfl <;> (simp (disch := omega) only [↓app0, ↓appC, ↓updS, ↓updN, ↓hpS, ↓hpN]) <;> first | rfl | (exact congrArg (fun z => some (Blk.mk z 2 123)) (rowsWtV fr L))) (fun j hj hn => by
  simp only [List.map_cons, List.map_nil, List.mem_cons, List.not_mem_nil, or_false, not_or] at hn
  (simp (disch := omega) only [↓app0, ↓appC, ↓updS, ↓updN, ↓hpS, ↓hpN]) <;> rfl)) (Nat.le_refl _)
theorem flatSn (L : List Sn) {k : Nat} : ∀ id b, app [(k, some (Blk.mk (L.map Sn.V) 6 115))] (fun _ => none) id = some b → ∀ e ∈ b.es, ∀ x ∈ e, x.flat = true := by
 intro id b hb e he x hx
 have : b = Blk.mk (L.map Sn.V) 6 115 := by
  simp only [app] at hb
  by_cases h : id = k
  ·subst h; rw [upd_same] at hb; exact (Option.some.inj hb).symm
  ·rw [upd_ne _ _ h] at hb; cases hb
 subst this
 obtain ⟨s, _, rfl⟩ := List.mem_map.1 he
 simp only [Sn.V, List.mem_cons, List.not_mem_nil, or_false] at hx
 rcases hx with rfl | rfl | rfl | rfl | rfl | rfl <;> rfl
theorem rgSnoc (w : Nat → Nat) (L : List Lk) (i : Nat) : (List.range i).map (rwV w L) ++ [rwV w L i] = (List.range (i + 1)).map (rwV w L) := by
 rw [List.range_succ, List.map_append]; rfl
theorem o49 (t : Tb) (fr : Bool) (hL : t.lk.length ≤ 1000) (hne : 0 < t.lk.length) (hW : ∀ i, i < t.lk.length → (t.lk.getD i Lk0).ws.length ≤ 1048576) (hS : t.sn.length ≤ 1048576) {h : Heap} {n : Nat} :
  V.Open En 49 [.agg [.int .i64 t.tm, .int .i64 t.nx, .sl fr true (t.lk.map (Lk.T true)), .sl fr true (t.sn.map Sn.T)]] h n (.agg [.int .i64 t.tm, .int .i64 t.nx, .view (n + 5 * t.lk.length + 4) 0 t.lk.length, .view (n + 3) 0 t.sn.length])
  ([(n + 3, some ⟨t.sn.map Sn.V, 6, 115⟩), (n + 5 * t.lk.length + 4, some ⟨lkR (fun i => n + 5 + 5 * i + 2) t.lk, 5, 29⟩)] ++ famL (fun i => n + 5 + 5 * i + 2) (wsF t.lk) t.lk.length) (n + 5 + 5 * t.lk.length) := by
 have hl : (t.lk.map (Lk.T true)).length = t.lk.length := List.length_map ..
 refine V.Open.fresh rfl (by omega) fun hz => ?_
 refine V.Open.of_wp Try.func49 rfl (Nat.le_of_ble_eq_true rfl) ?_
 refine wSeq (wRegion ?_)
 (refine rbx (u := .agg [.int .i64 t.tm, .int .i64 t.nx, .sl fr true (t.lk.map (Lk.T true)), .sl fr true (t.sn.map Sn.T)]) rfl rfl rfl rfl rfl rfl rfl ?_)
 refine ral rfl rfl rfl rfl rfl rfl (rNil (qSeq (wSeq (wDraw [0, 1, 0, 4, 0, 16, 48, 127, 0, 511] rfl (by decide +kernel) ?_))))
 refine dfa (off := 0) (s := 1) (r := false) rfl rfl rfl (Nat.succ_ne_zero _) rfl rfl rfl ?_
 (apply dlc (v := .int _ _) rfl rfl; exact Q3; rfl; rfl; rfl; rfl; rfl; rfl)
 refine dfa (off := 1) (s := 1) (r := false) rfl rfl rfl (Nat.succ_ne_zero _) rfl rfl rfl ?_
 (apply dlc (v := .int _ _) rfl rfl; exact Q3; rfl; rfl; rfl; rfl; rfl; rfl)
 refine dfa (off := 3) (s := 1) (r := false) rfl rfl rfl (Nat.succ_ne_zero _) rfl rfl rfl ?_
 (apply dlc (v := .sl _ _ _) rfl rfl; exact Q3; rfl; rfl; rfl; rfl; rfl; rfl)
 (apply dfr (o90 fr t.sn hS) rfl rfl rfl; (intro x hx; simp only [List.mem_cons, List.not_mem_nil, or_false] at hx; subst hx; rfl); rfl; (exact flatSn t.sn); exact List.cons_ne_nil _ _; rfl; rfl; rfl)
 refine dbd (cs := [.int _ _, .int _ _, _, _]) rfl rfl rfl rfl rfl (dal rfl rfl rfl rfl rfl rfl ?_)
 (apply dst (u := .agg [.int _ _, .int _ _, _, _]) rfl rfl rfl; exact Q3; rfl; rfl; rfl; rfl; rfl; (exact Nat.le_of_ble_eq_true rfl); rfl; rfl; rfl)
 refine dNilR 10 [3, 3, 0, 3, 1, 0, 1, 0, 1, 0] [(1, 6), (3, 6), (1, 8), (3, 8), (5, 8), (6, 8)] rfl rfl (by decide +kernel) ?_ ?_
 ·(simp [ClearL, ids]; try omega)
 refine qSeq (wSeq (wSeq (wRegion (rfa (off := 2) (s := 1) (r := false) rfl rfl rfl (Nat.succ_ne_zero _) rfl rfl rfl ?_))))
 (apply rlc (v := .sl _ _ _) rfl rfl; exact Q3; rfl; rfl; rfl; rfl; rfl; rfl)
 refine rll rfl rfl rfl rfl rfl rfl (rmI rfl rfl rfl rfl rfl (rNil (qSeq (wBlock (wLoop (lStep (wSeq (wRegion ?_))))))))
 refine rlt rfl rfl rfl rfl rfl rfl ?_ (fun h => absurd (by (try rw [hl]); omega) h)
 intro h3_0
 refine rNil (qSeq (wSeq (wT rfl (wSkip (qSeq (wSeq (wBlock (wSeq (wRegion ?_)))))))))
 (apply rixl rfl rfl rfl rfl; exact Q5; (first | rfl | assumption | (first | exact getMap (Lk.T true) Lk0 (k := 0) hne | exact getMap (Lk.T true) Lk0 (k := i) (by omega))); rfl; rfl; rfl; rfl)
 refine rlir (vs := [.str _, .int _ _, .int _ _, .int _ _, _]) rfl rfl rfl (Nat.le_of_ble_eq_true rfl) rfl rfl rfl rfl (ral rfl rfl rfl rfl rfl rfl ?_)
 (apply rst (u := .agg [.str _, .int _ _, .int _ _, .int _ _, _]) rfl rfl rfl; exact Q3; rfl; rfl; rfl; rfl; rfl; (exact Nat.le_of_ble_eq_true rfl); rfl; rfl; rfl)
 refine rNil (qSeq (wSeq (wRegion (rfa (off := 4) (s := 1) (r := false) rfl rfl rfl (Nat.succ_ne_zero _) rfl rfl rfl ?_))))
 (apply rlc (v := .sl _ _ _) rfl rfl; exact Q3; rfl; rfl; rfl; rfl; rfl; rfl)
 refine rop (o91 fr (t.lk.getD 0 Lk0).ws (hW 0 hne)) rfl rfl rfl rfl rfl rfl (rfa (off := 4) (s := 1) (r := false) rfl rfl rfl (Nat.succ_ne_zero _) rfl rfl rfl ?_)
 (apply rst (u := .view _ _ _) rfl rfl rfl; exact Q3; rfl; rfl; rfl; rfl; rfl; (exact Nat.le_of_ble_eq_true rfl); rfl; rfl; rfl)
 refine rNil (qSeq (wRegion (rfa (off := 2) (s := 1) (r := false) rfl rfl rfl (Nat.succ_ne_zero _) rfl rfl rfl ?_)))
 (apply rlc (v := .nsl) rfl rfl; exact Q3; rfl; rfl; rfl; rfl; rfl; rfl)
 (apply rlr (vs := [.str _, .int _ _, .int _ _, .int _ _, _]) rfl rfl; exact Q3; rfl; rfl; (exact Nat.le_of_ble_eq_true rfl); rfl; rfl; rfl; rfl)
 refine rbs (es := [[.str _, .int _ _, .int _ _, .int _ _, _]]) rfl rfl rfl rfl (Nat.succ_ne_zero _) (Nat.le_of_ble_eq_true rfl) rfl rfl rfl rfl rfl ?_
 (apply ran (s' := 64) (es := [[.str _, .int _ _, .int _ _, .int _ _, _]]) rfl rfl rfl rfl (Nat.succ_ne_zero _); (first | rfl | (apply srcView rfl; exact Q3; (first | exact Nat.le_refl _ | omega); rfl)); exact Q22; exact Q23; exact Q23; exact Q23; rfl; rfl; rfl)
 refine rfa (off := 2) (s := 1) (r := false) rfl rfl rfl (Nat.succ_ne_zero _) rfl rfl rfl ?_
 (apply rst (u := .view _ _ _) rfl rfl rfl; exact Q3; rfl; rfl; rfl; rfl; rfl; (exact Nat.le_of_ble_eq_true rfl); rfl; rfl; rfl)
 refine rNil (qBlock (qSeq (wRegion (raddF rfl rfl rfl ?_ ?_ rfl rfl rfl ?_))))
 ·exact Q5
 ·exact Q5
 refine rmI rfl rfl rfl rfl rfl (rNil (qLoop ?_))
 refine loopGo (fun (i : Nat) => [.unk, .ptr n 0 0, .ptr (n + 1) 0 0, .ptr (n + 4) 0 0, .unk, .unk, .unk, .unk, .unk, .unk, .unk, .unk, .unk, .unk, .unk, .sl fr true (t.lk.map (Lk.T true)), .int .i64 (t.lk.map (Lk.T true)).length, .int .i64 i]) (fun (i : Nat) => app ([(n, some ⟨[[.int .i64 t.tm, .int .i64 t.nx, .sl fr true (t.lk.map (Lk.T true)), .sl fr true (t.sn.map Sn.T)]], 4, 35⟩), (n + 1, some ⟨[[.int .i64 0, .int .i64 0, .nsl, .nsl]], 4, 35⟩), (n + 3, some ⟨t.sn.map Sn.V, 6, 115⟩), (n + 4, some ⟨[[.int .i64 t.tm, .int .i64 t.nx, .view (n + 5 * i + 4) 0 i, .view (n + 3) 0 t.sn.length]], 4, 35⟩), (n + 5 * i + 4, some ⟨(List.range i).map (rwV (fun i => n + 5 + 5 * i + 2) t.lk), 5, 29⟩)] ++ famL (fun i => n + 5 + 5 * i + 2) (wsF t.lk) i) h) (fun (i : Nat) => n + 5 + 5 * i) (fun (i : Nat) => 0 < i ∧ i ≤ t.lk.length) (fun (i : Nat) => t.lk.length - i) 1 ?_ ?_ ?_ ?_ ?_
 ·exact ⟨Nat.zero_lt_one, hne⟩
 ·(repeat first | exact LE.nil _ | refine LE.unk _ _ ?_ | refine LE.eq _ _ _ rfl ?_)
 ·refine lessFam (m := n) hz (fun j hj => ?_) (fun j hj => ?_) (fun j hl hf hn => ?_)
  ·refine Eq.trans ?_ (famA (w := (fun i => n + 5 + 5 * i + 2)) (fun a b _ _ e => by (try dsimp only at e); omega) hj).symm
   (try dsimp only)
   obtain rfl : j = 0 := by omega
   (simp (disch := omega) only [↓appC, ↓updN, ↓updS, ↓app0]) <;> rfl
  ·simp only [List.map_cons, List.map_nil, List.mem_cons, List.not_mem_nil, or_false] at hj
   refine Eq.trans ?_ (famAO (fun k _ => by rcases hj with e | e | e | e | e <;> rw [e] <;> (try dsimp only) <;> omega)).symm
   rcases hj with e | e | e | e | e <;> rw [e] <;> (simp (disch := (first | omega | (intro _ _; dsimp only; omega))) only [↓appC, ↓updN, ↓updS, ↓app0, ↓famAO]) <;> first | rfl | (fail)
  ·simp only [List.map_cons, List.map_nil, List.mem_cons, List.not_mem_nil, or_false, not_or] at hn
   (try simp (disch := (first | omega | (intro k hk; exact hf k (by omega)))) only [↓appC, ↓updN, ↓updS, ↓app0, ↓famAO])
 ·exact Nat.le_refl _
 intro i hI ih
 refine lStep (wSeq (wRegion ?_))
 refine rlt rfl rfl rfl rfl rfl rfl ?_ ?_ <;> intro h3_0
 ·refine rNil (qSeq (wSeq (wT rfl (wSkip (qSeq (wSeq (wBlock (wSeq (wRegion ?_)))))))))
  (apply rixl rfl rfl rfl rfl; exact Q5; (first | rfl | assumption | (first | exact getMap (Lk.T true) Lk0 (k := 0) hne | exact getMap (Lk.T true) Lk0 (k := i) (by omega))); rfl; rfl; rfl; rfl)
  refine rlir (vs := [.str _, .int _ _, .int _ _, .int _ _, _]) rfl rfl rfl (Nat.le_of_ble_eq_true rfl) rfl rfl rfl rfl (ral rfl rfl rfl rfl rfl rfl ?_)
  (apply rst (u := .agg [.str _, .int _ _, .int _ _, .int _ _, _]) rfl rfl rfl; exact Q3; rfl; rfl; rfl; rfl; rfl; (exact Nat.le_of_ble_eq_true rfl); rfl; rfl; rfl)
  refine rNil (qSeq (wSeq (wRegion (rfa (off := 4) (s := 1) (r := false) rfl rfl rfl (Nat.succ_ne_zero _) rfl rfl rfl ?_))))
  (apply rlc (v := .sl _ _ _) rfl rfl; exact Q3; rfl; rfl; rfl; rfl; rfl; rfl)
  refine rop (o91 fr (t.lk.getD i Lk0).ws (hW i (by omega))) rfl rfl rfl rfl rfl rfl ?_
  refine rfa (off := 4) (s := 1) (r := false) rfl rfl rfl (Nat.succ_ne_zero _) rfl rfl rfl ?_
  (apply rst (u := .view _ _ _) rfl rfl rfl; exact Q3; rfl; rfl; rfl; rfl; rfl; (exact Nat.le_of_ble_eq_true rfl); rfl; rfl; rfl)
  refine rNil (qSeq (wRegion (rfa (off := 2) (s := 1) (r := false) rfl rfl rfl (Nat.succ_ne_zero _) rfl rfl rfl ?_)))
  (apply rlc (v := .view _ _ _) rfl rfl; exact Q3; rfl; rfl; rfl; rfl; rfl; rfl)
  (apply rlr (vs := [.str _, .int _ _, .int _ _, .int _ _, _]) rfl rfl; exact Q3; rfl; rfl; (exact Nat.le_of_ble_eq_true rfl); rfl; rfl; rfl; rfl)
  refine rbs (es := [[.str _, .int _ _, .int _ _, .int _ _, _]]) rfl rfl rfl rfl (Nat.succ_ne_zero _) (Nat.le_of_ble_eq_true rfl) rfl rfl rfl rfl rfl ?_
  (apply rap (s' := 64) (es := [[.str _, .int _ _, .int _ _, .int _ _, _]]) rfl rfl; exact Q3; rfl; rfl; (first | rfl | (focus (simp; done)) | (focus (simp; omega))); rfl; rfl; exact (Nat.succ_ne_zero _); (first | rfl | (apply srcView rfl; exact Q3; (first | exact Nat.le_refl _ | omega); rfl)); exact Q22; exact Q23; exact Q23; rfl; rfl; rfl)
  refine rfa (off := 2) (s := 1) (r := false) rfl rfl rfl (Nat.succ_ne_zero _) rfl rfl rfl ?_
  (apply rst (u := .view _ _ _) rfl rfl rfl; exact Q3; rfl; rfl; rfl; rfl; rfl; (exact Nat.le_of_ble_eq_true rfl); rfl; rfl; rfl)
  refine rNil (qBlock (qSeq (wRegion (raddF rfl rfl rfl ?_ ?_ rfl rfl rfl ?_))))
  ·exact Q5
  ·exact Q5
  refine rmI rfl rfl rfl rfl rfl (rNil (qLoop ?_))
  refine wlH (ih (i + 1) ⟨by omega, by omega⟩ (by omega)) (by (repeat first | exact LE.nil _ | refine LE.unk _ _ ?_ | refine LE.eq _ _ _ rfl ?_)) (by
   refine lessFam (m := n) hz (fun j hj => ?_) (fun j hj => ?_) (fun j hl hf hn => ?_)
   ·refine Eq.trans ?_ (famA (w := (fun i => n + 5 + 5 * i + 2)) (fun a b _ _ e => by (try dsimp only at e); omega) hj).symm
    (try dsimp only)
    by_cases e : j = i
    ·rw [e]
     (simp (disch := omega) only [↓appC, ↓updN, ↓updS, ↓app0]) <;> rfl
    ·simp (disch := omega) only [↓appC, ↓updN, ↓updS, ↓app0]
     exact famA (w := (fun i => n + 5 + 5 * i + 2)) (fun a b _ _ e => by (try dsimp only at e); omega) (show j < i by omega)
   ·simp only [List.map_cons, List.map_nil, List.mem_cons, List.not_mem_nil, or_false] at hj
    refine Eq.trans ?_ (famAO (fun k _ => by rcases hj with e | e | e | e | e <;> rw [e] <;> (try dsimp only) <;> omega)).symm
    rcases hj with e | e | e | e | e <;> rw [e] <;> (simp (disch := (first | omega | (intro _ _; dsimp only; omega))) only [↓appC, ↓updN, ↓updS, ↓app0, ↓famAO]) <;> first | rfl | (first | exact congrArg (fun z => some (Blk.mk z 5 29)) (rgSnoc (fun i => n + 5 + 5 * i + 2) t.lk i) | exact congrArg (fun z => some (Blk.mk [[.int .i64 t.tm, .int .i64 t.nx, .view z 0 (i + 1), .view (n + 3) 0 t.sn.length]] 4 35)) (by omega))
   ·simp only [List.map_cons, List.map_nil, List.mem_cons, List.not_mem_nil, or_false, not_or] at hn
    (try simp (disch := (first | omega | (intro k hk; exact hf k (by omega)))) only [↓appC, ↓updN, ↓updS, ↓app0, ↓famAO])) (by omega)
 ·refine rNil (qSeq (wSeq (wF rfl (wExit (qSeqX (qLoopX (qBlockX (qSeq (wSeq (wRegion ?_))))))))))
  (apply rlr (vs := [.int _ _, .int _ _, _, _]) rfl rfl; exact Q3; rfl; rfl; (exact Nat.le_of_ble_eq_true rfl); rfl; rfl; rfl; rfl)
  (apply rst (u := .agg [.int _ _, .int _ _, _, _]) rfl rfl rfl; exact Q3; rfl; rfl; rfl; rfl; rfl; (exact Nat.le_of_ble_eq_true rfl); rfl; rfl; rfl)
  refine rNil (qSeq (wRet ?_))
  obtain rfl : i = t.lk.length := by omega
  refine finO (resL_cons (resV_row rfl (by exact Q3) rfl rfl (Nat.le_of_ble_eq_true rfl) rfl) resL_nil) rfl ?_ (by omega)
  refine leFam (fun i hi => ?_) (fun j hj => ?_) (fun j hl hf hn => ?_)
  ·refine Eq.trans ?_ (famA (w := (fun i => n + 5 + 5 * i + 2)) (fun a b _ _ e => by (try dsimp only at e); omega) hi).symm
   simp (disch := omega) only [↓appC, ↓updN, ↓app0]
   exact famA (w := (fun i => n + 5 + 5 * i + 2)) (fun a b _ _ e => by (try dsimp only at e); omega) hi
  ·simp only [List.map_cons, List.map_nil, List.mem_cons, List.not_mem_nil, or_false] at hj
   refine Eq.trans ?_ (famAO (fun k _ => by rcases hj with e | e <;> rw [e] <;> (try dsimp only) <;> omega)).symm
   rcases hj with e | e <;> rw [e] <;> (simp (disch := (first | omega | (intro _ _; dsimp only; omega))) only [↓appC, ↓updN, ↓updS, ↓app0, ↓famAO]) <;> rfl
  ·simp only [List.map_cons, List.map_nil, List.mem_cons, List.not_mem_nil, or_false, not_or] at hn
   simp (disch := (first | omega | (intro k hk; exact hf k (by omega)))) only [↓appC, ↓updN, ↓updS, ↓app0, ↓famAO]
open Go.V
set_option linter.unusedVariables false
set_option linter.unusedSimpArgs false
set_option maxRecDepth 20000
set_option maxHeartbeats 4000000
theorem rgSnoc2 (w : Nat → Nat) (L : List Lk) (i : Nat) : ((List.range i).map (rwV w L)).drop 0 ++ [rwV w L i] = (List.range (i + 1)).map (rwV w L) := rgSnoc w L i
end Go.Proofs.Ytknnniaoboaghaa
