import Derived.Test.YtknnniaoboaghaaA2
namespace Go.Proofs.Ytknnniaoboaghaa
open Go.V
set_option linter.unusedVariables false
set_option linter.unusedSimpArgs false
set_option maxRecDepth 20000
set_option maxHeartbeats 4000000

/-! The law's own: tables copied into memory. -/
/-- Rows that are laid one by one. -/
def mkG {α : Type} (f : α → List V) (z : List V) (L : List α) (i : Nat) : List (List V) := (L.take i).map f ++ List.replicate (L.length - i) z
theorem mkG_zero {α : Type} (f : α → List V) (z : List V) (L : List α) : mkG f z L 0 = List.replicate L.length z := by simp [mkG]
theorem mkG_full {α : Type} (f : α → List V) (z : List V) (L : List α) : mkG f z L L.length = L.map f := by simp [mkG]
theorem mkG_get {α : Type} (f : α → List V) (z : List V) {L : List α} {i : Nat} (h : i < L.length) : (mkG f z L i)[0 + i]? = some z := by
  have e : ((L.take i).map f).length = i := by simp; omega
  unfold mkG
  rw [Nat.zero_add, List.getElem?_append_right (by omega), e, Nat.sub_self, List.getElem?_replicate, if_pos (by omega)]
theorem mkG_set {α : Type} (f : α → List V) (z : List V) (d : α) {L : List α} {i : Nat} (h : i < L.length) : (mkG f z L i).set (0 + i) (f (L.getD i d)) = mkG f z L (i + 1) := by
  have e : ((L.take i).map f).length = i := by simp; omega
  unfold mkG
  rw [Nat.zero_add, List.set_append_right _ _ (by omega), e, Nat.sub_self]
  have e2 : L.length - i = (L.length - (i + 1)) + 1 := by omega
  rw [e2, List.replicate_succ, List.set_cons_zero]
  have e3 : L.take (i + 1) = L.take i ++ [L.getD i d] := by
    rw [List.take_add_one]; simp [h]
  rw [e3, List.map_append, List.append_assoc]
  rfl
theorem mkG_getR (f : Nat → List V) (z : List V) {m i : Nat} (h : i < m) : (mkG f z (List.range m) i)[0 + i]? = some z := mkG_get f z (by rw [List.length_range]; exact h)
theorem mkG_setR (f : Nat → List V) (z : List V) {m i : Nat} (h : i < m) : (mkG f z (List.range m) i).set (0 + i) (f i) = mkG f z (List.range m) (i + 1) := by
  have e := mkG_set f z 0 (L := List.range m) (i := i) (by rw [List.length_range]; exact h)
  rwa [show (List.range m).getD i 0 = i from by simp [List.getD_eq_getElem?_getD, h]] at e
theorem mkG_zeroR (f : Nat → List V) (z : List V) (m : Nat) : mkG f z (List.range m) 0 = List.replicate m z := by rw [mkG_zero, List.length_range]
theorem mkG_fullR (f : Nat → List V) (z : List V) (m : Nat) : mkG f z (List.range m) m = (List.range m).map f := by
  have e := mkG_full f z (List.range m)
  rwa [List.length_range] at e
theorem famA {w : Nat → Nat} {F : Nat → Option Blk} {n : Nat} {wr : List (Nat × Option Blk)} {h : Heap} {i : Nat} (inj : ∀ i j, i < n → j < n → w i = w j → i = j) (hi : i < n) : app (wr ++ famL w F n) h (w i) = F i := by
  rw [app_append]; exact famI inj hi
theorem famAO {w : Nat → Nat} {F : Nat → Option Blk} {n : Nat} {wr : List (Nat × Option Blk)} {h : Heap} {id : Nat} (ho : ∀ i, i < n → w i ≠ id) : app (wr ++ famL w F n) h id = app wr h id := by
  rw [app_append]; exact famO ho
def Sn.V (s : Sn) : List V := [.int .i64 s.cl, .int .i64 s.st, .int .i64 s.an.kd, .int .i64 s.an.tk, .int .i64 s.an.hd, .int .i64 s.an.ex]
/-- The rows of locks, whose waiters lie in blocks of their own; those blocks. -/
def rwV (w : Nat → Nat) (L : List Lk) (i : Nat) : List V := (L.getD i Lk0).V (.view (w i) 0 (L.getD i Lk0).ws.length)
def lkR (w : Nat → Nat) (L : List Lk) : List (List V) := (List.range L.length).map (rwV w L)
def wsF (L : List Lk) (i : Nat) : Option Blk := some ⟨(L.getD i Lk0).ws.map wtV, 2, 123⟩
def zL : List V := [.str ⟨#[]⟩, .int .i64 0, .int .i64 0, .int .i64 0, .nsl]
theorem lkR_len (w : Nat → Nat) (L : List Lk) : (lkR w L).length = L.length := by simp [lkR]
theorem lkR_get (w : Nat → Nat) (L : List Lk) {i : Nat} (h : i < L.length) : (lkR w L)[i]? = some (rwV w L i) := by simp [lkR, h]
theorem rowsSnV (fr : Bool) (L : List Sn) : ((L.map Sn.T).map fun r => r.map (T.toV fr)) = L.map Sn.V := by
  rw [List.map_map]; rfl
theorem lenSnF (fr : Bool) (L : List Sn) : ∀ c ∈ (L.map Sn.T).map (fun r => r.map (T.toV fr)), c.length = 6 := by
  rw [rowsSnV]; intro c hc; obtain ⟨r, hr, rfl⟩ := List.mem_map.1 hc; rfl
theorem rowsWtV (fr : Bool) (L : List Wt) : ((L.map wtT).map fun r => r.map (T.toV fr)) = L.map wtV := by
  rw [List.map_map]; rfl
theorem lenWtF (fr : Bool) (L : List Wt) : ∀ c ∈ (L.map wtT).map (fun r => r.map (T.toV fr)), c.length = 2 := by
  rw [rowsWtV]; intro c hc; obtain ⟨r, hr, rfl⟩ := List.mem_map.1 hc; rfl
theorem snapWs {h : Heap} {ids : List Nat} {r : Bool} {id m : Nat} {L : List Wt} (hid : id ∈ ids) (hb : h id = some ⟨L.map wtV, 2, 123⟩) (hm : m = L.length) : Snap h ids r (.view id 0 m) (.sl true (L.map wtT)) :=
  snapView (L.map wtT) hid hb (rowsWtV true L).symm (by rw [List.length_map]; exact hm)
theorem snapSn {h : Heap} {ids : List Nat} {r : Bool} {id m : Nat} {L : List Sn} (hid : id ∈ ids) (hb : h id = some ⟨L.map Sn.V, 6, 115⟩) (hm : m = L.length) : Snap h ids r (.view id 0 m) (.sl true (L.map Sn.T)) :=
  snapView (L.map Sn.T) hid hb (rowsSnV true L).symm (by rw [List.length_map]; exact hm)
theorem snapLk {h : Heap} {ids : List Nat} {r : Bool} {id m : Nat} {w : Nat → Nat} {L : List Lk} (hid : id ∈ ids) (hb : h id = some ⟨lkR w L, 5, 29⟩) (hm : m = L.length)
    (hw : ∀ i, i < L.length → w i ∈ ids) (hf : ∀ i, i < L.length → h (w i) = wsF L i) : Snap h ids r (.view id 0 m) (.sl true (L.map (Lk.T true))) := by
  subst hm
  have e : ((lkR w L).drop 0).take L.length = lkR w L := by rw [List.drop_zero, List.take_of_length_le (by rw [lkR_len]; exact Nat.le_refl _)]
  have e2 : ∀ i, i < L.length → (L.map (Lk.T true))[i]? = some ((L.getD i Lk0).T true) := fun i h => getMap (Lk.T true) Lk0 h
  refine .view id 0 _ _ _ hid hb (by dsimp only; rw [lkR_len]; omega) (by simp) (fun i x y h1 h2 => ?_) (fun i j x y h1 h2 => ?_)
  · dsimp only at h1
    rw [e] at h1
    have hi : i < L.length := by have := (List.getElem?_eq_some_iff.1 h1).1; rw [lkR_len] at this; exact this
    rw [lkR_get w L hi] at h1; rw [e2 i hi] at h2
    cases h1; cases h2; rfl
  · dsimp only at h1
    rw [e] at h1
    unfold get2 at h1 h2
    by_cases hi : i < L.length
    · rw [lkR_get w L hi] at h1; rw [e2 i hi] at h2
      match j with
      | 0 => cases h1; cases h2; exact .str _
      | 1 => cases h1; cases h2; exact .int _ _
      | 2 => cases h1; cases h2; exact .int _ _
      | 3 => cases h1; cases h2; exact .int _ _
      | 4 => cases h1; cases h2; exact snapWs (hw i hi) (hf i hi) rfl
      | j + 5 => exact absurd h1 nofun
    · rw [show (lkR w L)[i]? = none from List.getElem?_eq_none (by rw [lkR_len]; omega)] at h1; exact absurd h1 nofun
/-- A table in memory, as data. -/
theorem snapTb {h : Heap} {ids : List Nat} {r : Bool} {lb sb m1 m2 : Nat} {w : Nat → Nat} {t : Tb} (hl : lb ∈ ids) (hs : sb ∈ ids) (hw : ∀ i, i < t.lk.length → w i ∈ ids)
    (k1 : h lb = some ⟨lkR w t.lk, 5, 29⟩) (kf : ∀ i, i < t.lk.length → h (w i) = wsF t.lk i) (k2 : h sb = some ⟨t.sn.map Sn.V, 6, 115⟩) (e1 : m1 = t.lk.length) (e2 : m2 = t.sn.length) :
    SnapA h ids r (.agg [.int .i64 t.tm, .int .i64 t.nx, .view lb 0 m1, .view sb 0 m2]) (.agg (t.T true true true)) :=
  SnapC.agg (.cons _ _ _ _ (.int _ _) (.cons _ _ _ _ (.int _ _) (.cons _ _ _ _ (snapLk hl k1 e1 hw kf) (.cons _ _ _ _ (snapSn hs k2 e2) .nil))))
theorem s143 (a : Wt) : Pure En 143 [.agg (wtT a)] [.agg (wtT a)] := by
  refine Pure.of_wp Try.func143 rfl (Nat.le_of_ble_eq_true rfl) ?_
  refine wSeq ?_
  refine wRegion ?_
  refine rbx (u := .agg [.int _ _, .int _ _]) rfl rfl rfl rfl rfl rfl rfl ?_
  refine ral rfl rfl rfl rfl rfl rfl ?_
  refine rNil ?_
  refine qSeq ?_
  refine wSeq ?_
  refine wRegion ?_
  refine ral rfl rfl rfl rfl rfl rfl ?_
  refine rNil ?_
  refine qSeq ?_
  refine wSeq ?_
  refine wRegion ?_
  refine rfa (off := 0) (s := 1) (r := false) rfl rfl rfl (Nat.succ_ne_zero _) rfl rfl rfl ?_
  (apply rlc (v := .int _ _) rfl rfl; (first | ((simp (disch := omega) only [↓app0, ↓appC, ↓updS, ↓updN, ↓hpS, ↓hpN]) <;> first | rfl | assumption) | assumption | rfl); rfl; rfl; rfl; rfl; rfl; rfl)
  refine rfa (off := 0) (s := 1) (r := false) rfl rfl rfl (Nat.succ_ne_zero _) rfl rfl rfl ?_
  (apply rst (u := .int _ _) rfl rfl rfl; (first | ((simp (disch := omega) only [↓app0, ↓appC, ↓updS, ↓updN, ↓hpS, ↓hpN]) <;> first | rfl | assumption) | assumption | rfl); rfl; rfl; rfl; rfl; rfl; (exact Nat.le_of_ble_eq_true rfl); rfl; rfl; rfl)
  refine rNil ?_
  refine qSeq ?_
  refine wSeq ?_
  refine wRegion ?_
  refine rfa (off := 1) (s := 1) (r := false) rfl rfl rfl (Nat.succ_ne_zero _) rfl rfl rfl ?_
  (apply rlc (v := .int _ _) rfl rfl; (first | ((simp (disch := omega) only [↓app0, ↓appC, ↓updS, ↓updN, ↓hpS, ↓hpN]) <;> first | rfl | assumption) | assumption | rfl); rfl; rfl; rfl; rfl; rfl; rfl)
  refine rfa (off := 1) (s := 1) (r := false) rfl rfl rfl (Nat.succ_ne_zero _) rfl rfl rfl ?_
  (apply rst (u := .int _ _) rfl rfl rfl; (first | ((simp (disch := omega) only [↓app0, ↓appC, ↓updS, ↓updN, ↓hpS, ↓hpN]) <;> first | rfl | assumption) | assumption | rfl); rfl; rfl; rfl; rfl; rfl; (exact Nat.le_of_ble_eq_true rfl); rfl; rfl; rfl)
  refine rNil ?_
  refine qSeq ?_
  refine wSeq ?_
  refine wRegion ?_
  (apply rlr (vs := [.int _ _, .int _ _]) rfl rfl; (first | ((simp (disch := omega) only [↓app0, ↓appC, ↓updS, ↓updN, ↓hpS, ↓hpN]) <;> first | rfl | assumption) | assumption | rfl); rfl; rfl; (exact Nat.le_of_ble_eq_true rfl); rfl; rfl; rfl; rfl)
  (apply rst (u := .agg [.int _ _, .int _ _]) rfl rfl rfl; (first | ((simp (disch := omega) only [↓app0, ↓appC, ↓updS, ↓updN, ↓hpS, ↓hpN]) <;> first | rfl | assumption) | assumption | rfl); rfl; rfl; rfl; rfl; rfl; (exact Nat.le_of_ble_eq_true rfl); rfl; rfl; rfl)
  refine rNil ?_
  refine qSeq ?_
  refine wRet ?_
  exact fin (resL_cons (resV_row rfl (by (first | ((simp (disch := omega) only [↓app0, ↓appC, ↓updS, ↓updN, ↓hpS, ↓hpN]) <;> first | rfl | assumption) | assumption | rfl)) rfl rfl (Nat.le_of_ble_eq_true rfl) rfl) resL_nil) rfl
theorem s121 (a : An) : Pure En 121 [.agg a.T] [.agg a.T] := by
  refine Pure.of_wp Try.func121 rfl (Nat.le_of_ble_eq_true rfl) ?_
  refine wSeq ?_
  refine wRegion ?_
  refine rbx (u := .agg [.int _ _, .int _ _, .int _ _, .int _ _]) rfl rfl rfl rfl rfl rfl rfl ?_
  refine ral rfl rfl rfl rfl rfl rfl ?_
  refine rNil ?_
  refine qSeq ?_
  refine wSeq ?_
  refine wRegion ?_
  refine ral rfl rfl rfl rfl rfl rfl ?_
  refine rNil ?_
  refine qSeq ?_
  refine wSeq ?_
  refine wRegion ?_
  refine rfa (off := 0) (s := 1) (r := false) rfl rfl rfl (Nat.succ_ne_zero _) rfl rfl rfl ?_
  (apply rlc (v := .int _ _) rfl rfl; (first | ((simp (disch := omega) only [↓app0, ↓appC, ↓updS, ↓updN, ↓hpS, ↓hpN]) <;> first | rfl | assumption) | assumption | rfl); rfl; rfl; rfl; rfl; rfl; rfl)
  refine rfa (off := 0) (s := 1) (r := false) rfl rfl rfl (Nat.succ_ne_zero _) rfl rfl rfl ?_
  (apply rst (u := .int _ _) rfl rfl rfl; (first | ((simp (disch := omega) only [↓app0, ↓appC, ↓updS, ↓updN, ↓hpS, ↓hpN]) <;> first | rfl | assumption) | assumption | rfl); rfl; rfl; rfl; rfl; rfl; (exact Nat.le_of_ble_eq_true rfl); rfl; rfl; rfl)
  refine rNil ?_
  refine qSeq ?_
  refine wSeq ?_
  refine wRegion ?_
  refine rfa (off := 1) (s := 1) (r := false) rfl rfl rfl (Nat.succ_ne_zero _) rfl rfl rfl ?_
  (apply rlc (v := .int _ _) rfl rfl; (first | ((simp (disch := omega) only [↓app0, ↓appC, ↓updS, ↓updN, ↓hpS, ↓hpN]) <;> first | rfl | assumption) | assumption | rfl); rfl; rfl; rfl; rfl; rfl; rfl)
  refine rfa (off := 1) (s := 1) (r := false) rfl rfl rfl (Nat.succ_ne_zero _) rfl rfl rfl ?_
  (apply rst (u := .int _ _) rfl rfl rfl; (first | ((simp (disch := omega) only [↓app0, ↓appC, ↓updS, ↓updN, ↓hpS, ↓hpN]) <;> first | rfl | assumption) | assumption | rfl); rfl; rfl; rfl; rfl; rfl; (exact Nat.le_of_ble_eq_true rfl); rfl; rfl; rfl)
  refine rNil ?_
  refine qSeq ?_
  refine wSeq ?_
  refine wRegion ?_
  refine rfa (off := 2) (s := 1) (r := false) rfl rfl rfl (Nat.succ_ne_zero _) rfl rfl rfl ?_
  (apply rlc (v := .int _ _) rfl rfl; (first | ((simp (disch := omega) only [↓app0, ↓appC, ↓updS, ↓updN, ↓hpS, ↓hpN]) <;> first | rfl | assumption) | assumption | rfl); rfl; rfl; rfl; rfl; rfl; rfl)
  refine rfa (off := 2) (s := 1) (r := false) rfl rfl rfl (Nat.succ_ne_zero _) rfl rfl rfl ?_
  (apply rst (u := .int _ _) rfl rfl rfl; (first | ((simp (disch := omega) only [↓app0, ↓appC, ↓updS, ↓updN, ↓hpS, ↓hpN]) <;> first | rfl | assumption) | assumption | rfl); rfl; rfl; rfl; rfl; rfl; (exact Nat.le_of_ble_eq_true rfl); rfl; rfl; rfl)
  refine rNil ?_
  refine qSeq ?_
  refine wSeq ?_
  refine wRegion ?_
  refine rfa (off := 3) (s := 1) (r := false) rfl rfl rfl (Nat.succ_ne_zero _) rfl rfl rfl ?_
  (apply rlc (v := .int _ _) rfl rfl; (first | ((simp (disch := omega) only [↓app0, ↓appC, ↓updS, ↓updN, ↓hpS, ↓hpN]) <;> first | rfl | assumption) | assumption | rfl); rfl; rfl; rfl; rfl; rfl; rfl)
  refine rfa (off := 3) (s := 1) (r := false) rfl rfl rfl (Nat.succ_ne_zero _) rfl rfl rfl ?_
  (apply rst (u := .int _ _) rfl rfl rfl; (first | ((simp (disch := omega) only [↓app0, ↓appC, ↓updS, ↓updN, ↓hpS, ↓hpN]) <;> first | rfl | assumption) | assumption | rfl); rfl; rfl; rfl; rfl; rfl; (exact Nat.le_of_ble_eq_true rfl); rfl; rfl; rfl)
  refine rNil ?_
  refine qSeq ?_
  refine wSeq ?_
  refine wRegion ?_
  (apply rlr (vs := [.int _ _, .int _ _, .int _ _, .int _ _]) rfl rfl; (first | ((simp (disch := omega) only [↓app0, ↓appC, ↓updS, ↓updN, ↓hpS, ↓hpN]) <;> first | rfl | assumption) | assumption | rfl); rfl; rfl; (exact Nat.le_of_ble_eq_true rfl); rfl; rfl; rfl; rfl)
  (apply rst (u := .agg [.int _ _, .int _ _, .int _ _, .int _ _]) rfl rfl rfl; (first | ((simp (disch := omega) only [↓app0, ↓appC, ↓updS, ↓updN, ↓hpS, ↓hpN]) <;> first | rfl | assumption) | assumption | rfl); rfl; rfl; rfl; rfl; rfl; (exact Nat.le_of_ble_eq_true rfl); rfl; rfl; rfl)
  refine rNil ?_
  refine qSeq ?_
  refine wRet ?_
  exact fin (resL_cons (resV_row rfl (by (first | ((simp (disch := omega) only [↓app0, ↓appC, ↓updS, ↓updN, ↓hpS, ↓hpN]) <;> first | rfl | assumption) | assumption | rfl)) rfl rfl (Nat.le_of_ble_eq_true rfl) rfl) resL_nil) rfl
theorem s84 (s : Sn) : Pure En 84 [.agg s.T] [.agg s.T] := by
  refine Pure.of_wp Try.func84 rfl (Nat.le_of_ble_eq_true rfl) ?_
  refine wSeq ?_
  refine wRegion ?_
  refine rbx (u := .agg [.int _ _, .int _ _, .int _ _, .int _ _, .int _ _, .int _ _]) rfl rfl rfl rfl rfl rfl rfl ?_
  refine ral rfl rfl rfl rfl rfl rfl ?_
  refine rNil ?_
  refine qSeq ?_
  refine wSeq ?_
  refine wRegion ?_
  refine ral rfl rfl rfl rfl rfl rfl ?_
  refine rNil ?_
  refine qSeq ?_
  refine wSeq ?_
  refine wRegion ?_
  refine rfa (off := 0) (s := 1) (r := false) rfl rfl rfl (Nat.succ_ne_zero _) rfl rfl rfl ?_
  (apply rlc (v := .int _ _) rfl rfl; (first | ((simp (disch := omega) only [↓app0, ↓appC, ↓updS, ↓updN, ↓hpS, ↓hpN]) <;> first | rfl | assumption) | assumption | rfl); rfl; rfl; rfl; rfl; rfl; rfl)
  refine rfa (off := 0) (s := 1) (r := false) rfl rfl rfl (Nat.succ_ne_zero _) rfl rfl rfl ?_
  (apply rst (u := .int _ _) rfl rfl rfl; (first | ((simp (disch := omega) only [↓app0, ↓appC, ↓updS, ↓updN, ↓hpS, ↓hpN]) <;> first | rfl | assumption) | assumption | rfl); rfl; rfl; rfl; rfl; rfl; (exact Nat.le_of_ble_eq_true rfl); rfl; rfl; rfl)
  refine rNil ?_
  refine qSeq ?_
  refine wSeq ?_
  refine wRegion ?_
  refine rfa (off := 1) (s := 1) (r := false) rfl rfl rfl (Nat.succ_ne_zero _) rfl rfl rfl ?_
  (apply rlc (v := .int _ _) rfl rfl; (first | ((simp (disch := omega) only [↓app0, ↓appC, ↓updS, ↓updN, ↓hpS, ↓hpN]) <;> first | rfl | assumption) | assumption | rfl); rfl; rfl; rfl; rfl; rfl; rfl)
  refine rfa (off := 1) (s := 1) (r := false) rfl rfl rfl (Nat.succ_ne_zero _) rfl rfl rfl ?_
  (apply rst (u := .int _ _) rfl rfl rfl; (first | ((simp (disch := omega) only [↓app0, ↓appC, ↓updS, ↓updN, ↓hpS, ↓hpN]) <;> first | rfl | assumption) | assumption | rfl); rfl; rfl; rfl; rfl; rfl; (exact Nat.le_of_ble_eq_true rfl); rfl; rfl; rfl)
  refine rNil ?_
  refine qSeq ?_
  refine wSeq ?_
  refine wRegion ?_
  refine rfa (off := 2) (s := 4) (r := true) rfl rfl rfl (Nat.succ_ne_zero _) rfl rfl rfl ?_
  (apply rlr (vs := [.int _ _, .int _ _, .int _ _, .int _ _]) rfl rfl; (first | ((simp (disch := omega) only [↓app0, ↓appC, ↓updS, ↓updN, ↓hpS, ↓hpN]) <;> first | rfl | assumption) | assumption | rfl); rfl; rfl; (exact Nat.le_of_ble_eq_true rfl); rfl; rfl; rfl; rfl)
  refine rcl (s121 s.an) rfl rfl rfl rfl rfl rfl ?_
  refine rfa (off := 2) (s := 4) (r := true) rfl rfl rfl (Nat.succ_ne_zero _) rfl rfl rfl ?_
  (apply rst (u := .agg [.int _ _, .int _ _, .int _ _, .int _ _]) rfl rfl rfl; (first | ((simp (disch := omega) only [↓app0, ↓appC, ↓updS, ↓updN, ↓hpS, ↓hpN]) <;> first | rfl | assumption) | assumption | rfl); rfl; rfl; rfl; rfl; rfl; (exact Nat.le_of_ble_eq_true rfl); rfl; rfl; rfl)
  refine rNil ?_
  refine qSeq ?_
  refine wSeq ?_
  refine wRegion ?_
  (apply rlr (vs := [.int _ _, .int _ _, .int _ _, .int _ _, .int _ _, .int _ _]) rfl rfl; (first | ((simp (disch := omega) only [↓app0, ↓appC, ↓updS, ↓updN, ↓hpS, ↓hpN]) <;> first | rfl | assumption) | assumption | rfl); rfl; rfl; (exact Nat.le_of_ble_eq_true rfl); rfl; rfl; rfl; rfl)
  (apply rst (u := .agg [.int _ _, .int _ _, .int _ _, .int _ _, .int _ _, .int _ _]) rfl rfl rfl; (first | ((simp (disch := omega) only [↓app0, ↓appC, ↓updS, ↓updN, ↓hpS, ↓hpN]) <;> first | rfl | assumption) | assumption | rfl); rfl; rfl; rfl; rfl; rfl; (exact Nat.le_of_ble_eq_true rfl); rfl; rfl; rfl)
  refine rNil ?_
  refine qSeq ?_
  refine wRet ?_
  exact fin (resL_cons (resV_row rfl (by (first | ((simp (disch := omega) only [↓app0, ↓appC, ↓updS, ↓updN, ↓hpS, ↓hpN]) <;> first | rfl | assumption) | assumption | rfl)) rfl rfl (Nat.le_of_ble_eq_true rfl) rfl) resL_nil) rfl
theorem o120 (fr nn : Bool) (L : List Wt) (hL : L.length ≤ 1048576) {h : Heap} {n : Nat} : V.Open En 120 [.sl fr nn (L.map wtT)] h n (.view n 0 L.length) [(n, some ⟨L.map wtV, 2, 123⟩)] (n + 1) := by
  have hl : (L.map wtT).length = L.length := List.length_map ..
  refine V.Open.fresh rfl (Nat.le_succ _) fun hz => ?_
  refine V.Open.of_wp Try.func120 rfl (Nat.le_of_ble_eq_true rfl) ?_
  refine wSeq ?_
  refine wRegion ?_
  refine raN rfl rfl rfl rfl rfl ?_
  refine rNil ?_
  refine qSeq ?_
  refine wSeq ?_
  refine wRegion ?_
  refine rmL rfl rfl rfl rfl rfl ?_
  refine rll rfl rfl rfl rfl rfl rfl ?_
  refine rmk (s' := 16) rfl rfl rfl rfl rfl rfl (Nat.succ_ne_zero _) ?_ ?_ rfl rfl rfl ?_
  · (first | omega | assumption | (focus (simp; omega)))
  · (first | omega | assumption | (focus (simp; omega)))
  refine raV rfl rfl rfl rfl rfl ?_
  refine rNil ?_
  refine qSeq ?_
  refine wSeq ?_
  refine wSeq ?_
  refine wRegion ?_
  refine raI rfl rfl rfl rfl rfl ?_
  refine rNil ?_
  refine qSeq ?_
  refine wBlock ?_
  refine wLoop ?_
  refine loopGo (fun (i : Nat) => [.sl fr nn (L.map wtT), .unk, .unk, .view n 0 (L.map wtT).length, .int .i64 i]) (fun (i : Nat) => app [(n, some ⟨mkG wtV [.int .i64 0, .int .i64 0] L i, 2, 123⟩)] h) (fun (i : Nat) => n + 1) (fun (i : Nat) => i ≤ L.length) (fun (i : Nat) => L.length - i) 0 ?_ ?_ ?_ ?_ ?_
  · exact Nat.zero_le _
  · (repeat first | exact LE.nil _ | refine LE.unk _ _ ?_ | refine LE.eq _ _ _ rfl ?_)
  · refine lessApp (n := n) hz (fun jx hj => ?_) (fun jx hl hn => ?_)
    · simp only [List.map_cons, List.map_nil, List.mem_cons, List.not_mem_nil, or_false] at hj
      rcases hj with rfl <;> (simp (disch := omega) only [↓app0, ↓appC, ↓updS, ↓updN, ↓hpS, ↓hpN]) <;> first | rfl | assumption | exact congrArg (fun z => some (Blk.mk z 2 123)) (by rw [mkG_zero, ← hl]; rfl)
    · simp only [List.map_cons, List.map_nil, List.mem_cons, List.not_mem_nil, or_false, not_or] at hn
      (simp (disch := omega) only [↓app0, ↓appC, ↓updS, ↓updN, ↓hpS, ↓hpN])
  · exact Nat.le_refl _
  intro i hI ih
  refine lStep ?_
  refine wSeq ?_
  refine wSeq ?_
  refine wRegion ?_
  refine rmI rfl rfl rfl rfl rfl ?_
  refine rmL rfl rfl rfl rfl rfl ?_
  refine rll rfl rfl rfl rfl rfl rfl ?_
  refine rlt rfl rfl rfl rfl rfl rfl ?_ ?_ <;> intro h3_3
  · refine rNil ?_
    refine qSeq ?_
    refine wT rfl ?_
    refine wSkip ?_
    refine qSeq ?_
    refine wSeq ?_
    refine wBlock ?_
    refine wRegion ?_
    refine rmV rfl rfl rfl rfl rfl ?_
    refine rmI rfl rfl rfl rfl rfl ?_
    refine rmL rfl rfl rfl rfl rfl ?_
    refine rmI rfl rfl rfl rfl rfl ?_
    (apply rixl rfl rfl rfl rfl; (first | omega | assumption | (focus (simp; omega))); (first | rfl | assumption | (exact getMap wtT (0, 0) (by omega))); rfl; rfl; rfl; rfl)
    refine rlir (vs := [.int _ _, .int _ _]) rfl rfl rfl (Nat.le_of_ble_eq_true rfl) rfl rfl rfl rfl ?_
    refine rcl (s143 (L.getD i (0, 0))) rfl rfl rfl rfl rfl rfl ?_
    (apply rixv rfl rfl rfl rfl; (first | ((simp (disch := omega) only [↓app0, ↓appC, ↓updS, ↓updN, ↓hpS, ↓hpN]) <;> first | rfl | assumption) | assumption | rfl); rfl; (first | omega | assumption | (focus (simp; omega))); (first | omega | assumption | (focus (simp; omega))); rfl; rfl; rfl)
    (apply rst rfl rfl rfl; (first | ((simp (disch := omega) only [↓app0, ↓appC, ↓updS, ↓updN, ↓hpS, ↓hpN]) <;> first | rfl | assumption) | assumption | rfl); exact mkG_get wtV [.int .i64 0, .int .i64 0] (by omega); rfl; rfl; rfl; rfl; (exact Nat.le_of_ble_eq_true rfl); rfl; rfl; rfl)
    refine rNil ?_
    refine qBlock ?_
    refine qSeq ?_
    refine wRegion ?_
    refine rmI rfl rfl rfl rfl rfl ?_
    refine raddF rfl rfl rfl ?_ ?_ rfl rfl rfl ?_
    · (first | omega | assumption | (focus (simp; omega)))
    · (first | omega | assumption | (focus (simp; omega)))
    refine raI rfl rfl rfl rfl rfl ?_
    refine rNil ?_
    refine qLoop ?_
    exact wlH (ih (i + 1) (by omega) (by omega)) (by (repeat first | exact LE.nil _ | refine LE.unk _ _ ?_ | refine LE.eq _ _ _ rfl ?_)) (by
      refine lessApp (n := n) hz (fun jx hj => ?_) (fun jx hl hn => ?_)
      · simp only [List.map_cons, List.map_nil, List.mem_cons, List.not_mem_nil, or_false] at hj
        rcases hj with rfl <;> (simp (disch := omega) only [↓app0, ↓appC, ↓updS, ↓updN, ↓hpS, ↓hpN]) <;> first | rfl | assumption | exact congrArg (fun z => some (Blk.mk z 2 123)) (mkG_set wtV [.int .i64 0, .int .i64 0] (0, 0) (by omega))
      · simp only [List.map_cons, List.map_nil, List.mem_cons, List.not_mem_nil, or_false, not_or] at hn
        (simp (disch := omega) only [↓app0, ↓appC, ↓updS, ↓updN, ↓hpS, ↓hpN])) (Nat.le_refl _)
  · refine rNil ?_
    refine qSeq ?_
    refine wF rfl ?_
    refine wExit ?_
    refine qSeqX ?_
    refine qLoopX ?_
    refine qBlockX ?_
    refine qSeq ?_
    refine wSeq ?_
    refine wRegion ?_
    refine rmV rfl rfl rfl rfl rfl ?_
    refine raV rfl rfl rfl rfl rfl ?_
    refine rNil ?_
    refine qSeq ?_
    refine wRet ?_
    obtain rfl : i = L.length := by omega
    exact finO rfl (congrArg (V.view n 0) hl) (leWr (by
      intro j hj
      simp only [List.map_cons, List.map_nil, List.mem_cons, List.not_mem_nil, or_false] at hj
      rcases hj with rfl <;> (simp (disch := omega) only [↓app0, ↓appC, ↓updS, ↓updN, ↓hpS, ↓hpN]) <;> first | rfl | (exact congrArg (fun z => some (Blk.mk z 2 123)) (mkG_full wtV [.int .i64 0, .int .i64 0] L))) (fun j hj hn => by
      simp only [List.map_cons, List.map_nil, List.mem_cons, List.not_mem_nil, or_false, not_or] at hn
      (simp (disch := omega) only [↓app0, ↓appC, ↓updS, ↓updN, ↓hpS, ↓hpN]) <;> rfl)) (Nat.le_refl _)
theorem o46 (fr nn : Bool) (L : List Sn) (hL : L.length ≤ 1048576) {h : Heap} {n : Nat} : V.Open En 46 [.sl fr nn (L.map Sn.T)] h n (.view n 0 L.length) [(n, some ⟨L.map Sn.V, 6, 115⟩)] (n + 1) := by
  have hl : (L.map Sn.T).length = L.length := List.length_map ..
  refine V.Open.fresh rfl (Nat.le_succ _) fun hz => ?_
  refine V.Open.of_wp Try.func46 rfl (Nat.le_of_ble_eq_true rfl) ?_
  refine wSeq ?_
  refine wRegion ?_
  refine raN rfl rfl rfl rfl rfl ?_
  refine rNil ?_
  refine qSeq ?_
  refine wSeq ?_
  refine wRegion ?_
  refine rmL rfl rfl rfl rfl rfl ?_
  refine rll rfl rfl rfl rfl rfl rfl ?_
  refine rmk (s' := 48) rfl rfl rfl rfl rfl rfl (Nat.succ_ne_zero _) ?_ ?_ rfl rfl rfl ?_
  · (first | omega | assumption | (focus (simp; omega)))
  · (first | omega | assumption | (focus (simp; omega)))
  refine raV rfl rfl rfl rfl rfl ?_
  refine rNil ?_
  refine qSeq ?_
  refine wSeq ?_
  refine wSeq ?_
  refine wRegion ?_
  refine raI rfl rfl rfl rfl rfl ?_
  refine rNil ?_
  refine qSeq ?_
  refine wBlock ?_
  refine wLoop ?_
  refine loopGo (fun (i : Nat) => [.sl fr nn (L.map Sn.T), .unk, .unk, .view n 0 (L.map Sn.T).length, .int .i64 i]) (fun (i : Nat) => app [(n, some ⟨mkG Sn.V [.int .i64 0, .int .i64 0, .int .i64 0, .int .i64 0, .int .i64 0, .int .i64 0] L i, 6, 115⟩)] h) (fun (i : Nat) => n + 1) (fun (i : Nat) => i ≤ L.length) (fun (i : Nat) => L.length - i) 0 ?_ ?_ ?_ ?_ ?_
  · exact Nat.zero_le _
  · (repeat first | exact LE.nil _ | refine LE.unk _ _ ?_ | refine LE.eq _ _ _ rfl ?_)
  · refine lessApp (n := n) hz (fun jx hj => ?_) (fun jx hl hn => ?_)
    · simp only [List.map_cons, List.map_nil, List.mem_cons, List.not_mem_nil, or_false] at hj
      rcases hj with rfl <;> (simp (disch := omega) only [↓app0, ↓appC, ↓updS, ↓updN, ↓hpS, ↓hpN]) <;> first | rfl | assumption | exact congrArg (fun z => some (Blk.mk z 6 115)) (by rw [mkG_zero, ← hl]; rfl)
    · simp only [List.map_cons, List.map_nil, List.mem_cons, List.not_mem_nil, or_false, not_or] at hn
      (simp (disch := omega) only [↓app0, ↓appC, ↓updS, ↓updN, ↓hpS, ↓hpN])
  · exact Nat.le_refl _
  intro i hI ih
  refine lStep ?_
  refine wSeq ?_
  refine wSeq ?_
  refine wRegion ?_
  refine rmI rfl rfl rfl rfl rfl ?_
  refine rmL rfl rfl rfl rfl rfl ?_
  refine rll rfl rfl rfl rfl rfl rfl ?_
  refine rlt rfl rfl rfl rfl rfl rfl ?_ ?_ <;> intro h3_3
  · refine rNil ?_
    refine qSeq ?_
    refine wT rfl ?_
    refine wSkip ?_
    refine qSeq ?_
    refine wSeq ?_
    refine wBlock ?_
    refine wRegion ?_
    refine rmV rfl rfl rfl rfl rfl ?_
    refine rmI rfl rfl rfl rfl rfl ?_
    refine rmL rfl rfl rfl rfl rfl ?_
    refine rmI rfl rfl rfl rfl rfl ?_
    (apply rixl rfl rfl rfl rfl; (first | omega | assumption | (focus (simp; omega))); (first | rfl | assumption | (exact getMap Sn.T Sn0 (by omega))); rfl; rfl; rfl; rfl)
    refine rlir (vs := [.int _ _, .int _ _, .int _ _, .int _ _, .int _ _, .int _ _]) rfl rfl rfl (Nat.le_of_ble_eq_true rfl) rfl rfl rfl rfl ?_
    refine rcl (s84 (L.getD i Sn0)) rfl rfl rfl rfl rfl rfl ?_
    (apply rixv rfl rfl rfl rfl; (first | ((simp (disch := omega) only [↓app0, ↓appC, ↓updS, ↓updN, ↓hpS, ↓hpN]) <;> first | rfl | assumption) | assumption | rfl); rfl; (first | omega | assumption | (focus (simp; omega))); (first | omega | assumption | (focus (simp; omega))); rfl; rfl; rfl)
    (apply rst rfl rfl rfl; (first | ((simp (disch := omega) only [↓app0, ↓appC, ↓updS, ↓updN, ↓hpS, ↓hpN]) <;> first | rfl | assumption) | assumption | rfl); exact mkG_get Sn.V [.int .i64 0, .int .i64 0, .int .i64 0, .int .i64 0, .int .i64 0, .int .i64 0] (by omega); rfl; rfl; rfl; rfl; (exact Nat.le_of_ble_eq_true rfl); rfl; rfl; rfl)
    refine rNil ?_
    refine qBlock ?_
    refine qSeq ?_
    refine wRegion ?_
    refine rmI rfl rfl rfl rfl rfl ?_
    refine raddF rfl rfl rfl ?_ ?_ rfl rfl rfl ?_
    · (first | omega | assumption | (focus (simp; omega)))
    · (first | omega | assumption | (focus (simp; omega)))
    refine raI rfl rfl rfl rfl rfl ?_
    refine rNil ?_
    refine qLoop ?_
    exact wlH (ih (i + 1) (by omega) (by omega)) (by (repeat first | exact LE.nil _ | refine LE.unk _ _ ?_ | refine LE.eq _ _ _ rfl ?_)) (by
      refine lessApp (n := n) hz (fun jx hj => ?_) (fun jx hl hn => ?_)
      · simp only [List.map_cons, List.map_nil, List.mem_cons, List.not_mem_nil, or_false] at hj
        rcases hj with rfl <;> (simp (disch := omega) only [↓app0, ↓appC, ↓updS, ↓updN, ↓hpS, ↓hpN]) <;> first | rfl | assumption | exact congrArg (fun z => some (Blk.mk z 6 115)) (mkG_set Sn.V [.int .i64 0, .int .i64 0, .int .i64 0, .int .i64 0, .int .i64 0, .int .i64 0] Sn0 (by omega))
      · simp only [List.map_cons, List.map_nil, List.mem_cons, List.not_mem_nil, or_false, not_or] at hn
        (simp (disch := omega) only [↓app0, ↓appC, ↓updS, ↓updN, ↓hpS, ↓hpN])) (Nat.le_refl _)
  · refine rNil ?_
    refine qSeq ?_
    refine wF rfl ?_
    refine wExit ?_
    refine qSeqX ?_
    refine qLoopX ?_
    refine qBlockX ?_
    refine qSeq ?_
    refine wSeq ?_
    refine wRegion ?_
    refine rmV rfl rfl rfl rfl rfl ?_
    refine raV rfl rfl rfl rfl rfl ?_
    refine rNil ?_
    refine qSeq ?_
    refine wRet ?_
    obtain rfl : i = L.length := by omega
    exact finO rfl (congrArg (V.view n 0) hl) (leWr (by
      intro j hj
      simp only [List.map_cons, List.map_nil, List.mem_cons, List.not_mem_nil, or_false] at hj
      rcases hj with rfl <;> (simp (disch := omega) only [↓app0, ↓appC, ↓updS, ↓updN, ↓hpS, ↓hpN]) <;> first | rfl | (exact congrArg (fun z => some (Blk.mk z 6 115)) (mkG_full Sn.V [.int .i64 0, .int .i64 0, .int .i64 0, .int .i64 0, .int .i64 0, .int .i64 0] L))) (fun j hj hn => by
      simp only [List.map_cons, List.map_nil, List.mem_cons, List.not_mem_nil, or_false, not_or] at hn
      (simp (disch := omega) only [↓app0, ↓appC, ↓updS, ↓updN, ↓hpS, ↓hpN]) <;> rfl)) (Nat.le_refl _)
theorem o83 (l : Lk) (fr : Bool) (hL : l.ws.length ≤ 1048576) {h : Heap} {n : Nat} : V.Open En 83 [.agg (l.V (.sl fr false (l.ws.map wtT)))] h n (.agg (l.V (.view (n + 3) 0 l.ws.length))) [(n + 3, some ⟨l.ws.map wtV, 2, 123⟩)] (n + 4) := by
  refine V.Open.of_wp Try.func83 rfl (Nat.le_of_ble_eq_true rfl) ?_
  refine wSeq ?_
  refine wRegion ?_
  (refine rbx (u := .agg (l.V (.sl fr false (l.ws.map wtT)))) rfl rfl rfl rfl rfl rfl rfl ?_)
  refine ral rfl rfl rfl rfl rfl rfl ?_
  refine rNil ?_
  refine qSeq ?_
  refine wSeq ?_
  refine wRegion ?_
  refine ral rfl rfl rfl rfl rfl rfl ?_
  refine rNil ?_
  refine qSeq ?_
  refine wSeq ?_
  refine wRegion ?_
  refine rfa (off := 0) (s := 1) (r := false) rfl rfl rfl (Nat.succ_ne_zero _) rfl rfl rfl ?_
  (apply rlc (v := .str _) rfl rfl; (first | ((simp (disch := omega) only [↓app0, ↓appC, ↓updS, ↓updN, ↓hpS, ↓hpN]) <;> first | rfl | assumption) | assumption | rfl); rfl; rfl; rfl; rfl; rfl; rfl)
  refine rfa (off := 0) (s := 1) (r := false) rfl rfl rfl (Nat.succ_ne_zero _) rfl rfl rfl ?_
  (apply rst (u := .str _) rfl rfl rfl; (first | ((simp (disch := omega) only [↓app0, ↓appC, ↓updS, ↓updN, ↓hpS, ↓hpN]) <;> first | rfl | assumption) | assumption | rfl); rfl; rfl; rfl; rfl; rfl; (exact Nat.le_of_ble_eq_true rfl); rfl; rfl; rfl)
  refine rNil ?_
  refine qSeq ?_
  refine wSeq ?_
  refine wRegion ?_
  refine rfa (off := 1) (s := 1) (r := false) rfl rfl rfl (Nat.succ_ne_zero _) rfl rfl rfl ?_
  (apply rlc (v := .int _ _) rfl rfl; (first | ((simp (disch := omega) only [↓app0, ↓appC, ↓updS, ↓updN, ↓hpS, ↓hpN]) <;> first | rfl | assumption) | assumption | rfl); rfl; rfl; rfl; rfl; rfl; rfl)
  refine rfa (off := 1) (s := 1) (r := false) rfl rfl rfl (Nat.succ_ne_zero _) rfl rfl rfl ?_
  (apply rst (u := .int _ _) rfl rfl rfl; (first | ((simp (disch := omega) only [↓app0, ↓appC, ↓updS, ↓updN, ↓hpS, ↓hpN]) <;> first | rfl | assumption) | assumption | rfl); rfl; rfl; rfl; rfl; rfl; (exact Nat.le_of_ble_eq_true rfl); rfl; rfl; rfl)
  refine rNil ?_
  refine qSeq ?_
  refine wSeq ?_
  refine wRegion ?_
  refine rfa (off := 2) (s := 1) (r := false) rfl rfl rfl (Nat.succ_ne_zero _) rfl rfl rfl ?_
  (apply rlc (v := .int _ _) rfl rfl; (first | ((simp (disch := omega) only [↓app0, ↓appC, ↓updS, ↓updN, ↓hpS, ↓hpN]) <;> first | rfl | assumption) | assumption | rfl); rfl; rfl; rfl; rfl; rfl; rfl)
  refine rfa (off := 2) (s := 1) (r := false) rfl rfl rfl (Nat.succ_ne_zero _) rfl rfl rfl ?_
  (apply rst (u := .int _ _) rfl rfl rfl; (first | ((simp (disch := omega) only [↓app0, ↓appC, ↓updS, ↓updN, ↓hpS, ↓hpN]) <;> first | rfl | assumption) | assumption | rfl); rfl; rfl; rfl; rfl; rfl; (exact Nat.le_of_ble_eq_true rfl); rfl; rfl; rfl)
  refine rNil ?_
  refine qSeq ?_
  refine wSeq ?_
  refine wRegion ?_
  refine rfa (off := 3) (s := 1) (r := false) rfl rfl rfl (Nat.succ_ne_zero _) rfl rfl rfl ?_
  (apply rlc (v := .int _ _) rfl rfl; (first | ((simp (disch := omega) only [↓app0, ↓appC, ↓updS, ↓updN, ↓hpS, ↓hpN]) <;> first | rfl | assumption) | assumption | rfl); rfl; rfl; rfl; rfl; rfl; rfl)
  refine rfa (off := 3) (s := 1) (r := false) rfl rfl rfl (Nat.succ_ne_zero _) rfl rfl rfl ?_
  (apply rst (u := .int _ _) rfl rfl rfl; (first | ((simp (disch := omega) only [↓app0, ↓appC, ↓updS, ↓updN, ↓hpS, ↓hpN]) <;> first | rfl | assumption) | assumption | rfl); rfl; rfl; rfl; rfl; rfl; (exact Nat.le_of_ble_eq_true rfl); rfl; rfl; rfl)
  refine rNil ?_
  refine qSeq ?_
  refine wSeq ?_
  refine wRegion ?_
  refine rfa (off := 4) (s := 1) (r := false) rfl rfl rfl (Nat.succ_ne_zero _) rfl rfl rfl ?_
  (apply rlc (v := .sl _ _ _) rfl rfl; (first | ((simp (disch := omega) only [↓app0, ↓appC, ↓updS, ↓updN, ↓hpS, ↓hpN]) <;> first | rfl | assumption) | assumption | rfl); rfl; rfl; rfl; rfl; rfl; rfl)
  refine rop (o120 fr false l.ws hL) rfl rfl rfl rfl rfl rfl ?_
  refine rfa (off := 4) (s := 1) (r := false) rfl rfl rfl (Nat.succ_ne_zero _) rfl rfl rfl ?_
  (apply rst (u := .view _ _ _) rfl rfl rfl; (first | ((simp (disch := omega) only [↓app0, ↓appC, ↓updS, ↓updN, ↓hpS, ↓hpN]) <;> first | rfl | assumption) | assumption | rfl); rfl; rfl; rfl; rfl; rfl; (exact Nat.le_of_ble_eq_true rfl); rfl; rfl; rfl)
  refine rNil ?_
  refine qSeq ?_
  refine wSeq ?_
  refine wRegion ?_
  (apply rlr (vs := [.str _, .int _ _, .int _ _, .int _ _, _]) rfl rfl; (first | ((simp (disch := omega) only [↓app0, ↓appC, ↓updS, ↓updN, ↓hpS, ↓hpN]) <;> first | rfl | assumption) | assumption | rfl); rfl; rfl; (exact Nat.le_of_ble_eq_true rfl); rfl; rfl; rfl; rfl)
  (apply rst (u := .agg [.str _, .int _ _, .int _ _, .int _ _, _]) rfl rfl rfl; (first | ((simp (disch := omega) only [↓app0, ↓appC, ↓updS, ↓updN, ↓hpS, ↓hpN]) <;> first | rfl | assumption) | assumption | rfl); rfl; rfl; rfl; rfl; rfl; (exact Nat.le_of_ble_eq_true rfl); rfl; rfl; rfl)
  refine rNil ?_
  refine qSeq ?_
  refine wRet ?_
  refine finO (resL_cons (resV_row rfl (by (first | ((simp (disch := omega) only [↓app0, ↓appC, ↓updS, ↓updN, ↓hpS, ↓hpN]) <;> first | rfl | assumption) | assumption | rfl)) rfl rfl (Nat.le_of_ble_eq_true rfl) rfl) resL_nil) rfl ?_ (Nat.le_refl _)
  exact (leWr (by
    intro j hj
    simp only [List.map_cons, List.map_nil, List.mem_cons, List.not_mem_nil, or_false] at hj
    rcases hj with rfl <;> (simp (disch := omega) only [↓app0, ↓appC, ↓updS, ↓updN, ↓hpS, ↓hpN]) <;> first | rfl | (fail)) (fun j hj hn => by
    simp only [List.map_cons, List.map_nil, List.mem_cons, List.not_mem_nil, or_false, not_or] at hn
    (simp (disch := omega) only [↓app0, ↓appC, ↓updS, ↓updN, ↓hpS, ↓hpN]) <;> rfl))
theorem o45 (fr nn : Bool) (L : List Lk) (hL : L.length ≤ 1048576) (hW : ∀ i, i < L.length → (L.getD i Lk0).ws.length ≤ 1048576) {h : Heap} {n : Nat} : V.Open En 45 [.sl fr nn (L.map (Lk.T false))] h n (.view n 0 L.length)
    ([(n, some ⟨lkR (fun i => n + 1 + 4 * i + 3) L, 5, 29⟩)] ++ famL (fun i => n + 1 + 4 * i + 3) (wsF L) L.length) (n + 1 + 4 * L.length) := by
  have hl : (L.map (Lk.T false)).length = L.length := List.length_map ..
  refine V.Open.fresh rfl (by omega) fun hz => ?_
  refine V.Open.of_wp Try.func45 rfl (Nat.le_of_ble_eq_true rfl) ?_
  refine wSeq ?_
  refine wRegion ?_
  refine raN rfl rfl rfl rfl rfl ?_
  refine rNil ?_
  refine qSeq ?_
  refine wSeq ?_
  refine wRegion ?_
  refine rmL rfl rfl rfl rfl rfl ?_
  refine rll rfl rfl rfl rfl rfl rfl ?_
  refine rmk (s' := 64) rfl rfl rfl rfl rfl rfl (Nat.succ_ne_zero _) ?_ ?_ rfl rfl rfl ?_
  · (first | omega | assumption | (focus (simp; omega)))
  · (first | omega | assumption | (focus (simp; omega)))
  refine raV rfl rfl rfl rfl rfl ?_
  refine rNil ?_
  refine qSeq ?_
  refine wSeq ?_
  refine wSeq ?_
  refine wRegion ?_
  refine raI rfl rfl rfl rfl rfl ?_
  refine rNil ?_
  refine qSeq ?_
  refine wBlock ?_
  refine wLoop ?_
  refine loopGo (fun (i : Nat) => [.sl fr nn (L.map (Lk.T false)), .unk, .unk, .view n 0 (L.map (Lk.T false)).length, .int .i64 i]) (fun (i : Nat) => app ([(n, some ⟨mkG (rwV (fun i => n + 1 + 4 * i + 3) L) zL (List.range L.length) i, 5, 29⟩)] ++ famL (fun i => n + 1 + 4 * i + 3) (wsF L) i) h) (fun (i : Nat) => n + 1 + 4 * i) (fun (i : Nat) => i ≤ L.length) (fun (i : Nat) => L.length - i) 0 ?_ ?_ ?_ ?_ ?_
  · exact Nat.zero_le _
  · (repeat first | exact LE.nil _ | refine LE.unk _ _ ?_ | refine LE.eq _ _ _ rfl ?_)
  · rw [famL_zero, List.append_nil]
    refine lessApp (n := n) hz (fun jx hj => ?_) (fun jx hl hn => ?_)
    · simp only [List.map_cons, List.map_nil, List.mem_cons, List.not_mem_nil, or_false] at hj
      rcases hj with rfl <;> (simp (disch := omega) only [↓app0, ↓appC, ↓updS, ↓updN, ↓hpS, ↓hpN]) <;> first | rfl | assumption | exact congrArg (fun z => some (Blk.mk z 5 29)) (by rw [mkG_zeroR, ← hl]; rfl)
    · simp only [List.map_cons, List.map_nil, List.mem_cons, List.not_mem_nil, or_false, not_or] at hn
      (simp (disch := omega) only [↓app0, ↓appC, ↓updS, ↓updN, ↓hpS, ↓hpN])
  · exact Nat.le_refl _
  intro i hI ih
  refine lStep ?_
  refine wSeq ?_
  refine wSeq ?_
  refine wRegion ?_
  refine rmI rfl rfl rfl rfl rfl ?_
  refine rmL rfl rfl rfl rfl rfl ?_
  refine rll rfl rfl rfl rfl rfl rfl ?_
  refine rlt rfl rfl rfl rfl rfl rfl ?_ ?_ <;> intro h3_3
  · refine rNil ?_
    refine qSeq ?_
    refine wT rfl ?_
    refine wSkip ?_
    refine qSeq ?_
    refine wSeq ?_
    refine wBlock ?_
    refine wRegion ?_
    refine rmV rfl rfl rfl rfl rfl ?_
    refine rmI rfl rfl rfl rfl rfl ?_
    refine rmL rfl rfl rfl rfl rfl ?_
    refine rmI rfl rfl rfl rfl rfl ?_
    (apply rixl rfl rfl rfl rfl; (first | omega | assumption | (focus (simp; omega))); (first | rfl | assumption | (exact getMap (Lk.T false) Lk0 (by omega))); rfl; rfl; rfl; rfl)
    refine rlir (vs := [.str _, .int _ _, .int _ _, .int _ _, _]) rfl rfl rfl (Nat.le_of_ble_eq_true rfl) rfl rfl rfl rfl ?_
    refine rop (o83 (L.getD i Lk0) fr (hW i (by omega))) rfl rfl rfl rfl rfl rfl ?_
    (apply rixv rfl rfl rfl rfl; (first | ((simp (disch := omega) only [↓app0, ↓appC, ↓updS, ↓updN, ↓hpS, ↓hpN]) <;> first | rfl | assumption) | ((simp (disch := (first | omega | (intro _ _; dsimp only; omega))) only [↓app_append, ↓famO, ↓app0, ↓appC, ↓updS, ↓updN, ↓hpS, ↓hpN]) <;> first | rfl | assumption) | assumption | rfl); rfl; (first | omega | assumption | (focus (simp; omega))); (first | omega | assumption | (focus (simp; omega))); rfl; rfl; rfl)
    (apply rst rfl rfl rfl; (first | ((simp (disch := omega) only [↓app0, ↓appC, ↓updS, ↓updN, ↓hpS, ↓hpN]) <;> first | rfl | assumption) | ((simp (disch := (first | omega | (intro _ _; dsimp only; omega))) only [↓app_append, ↓famO, ↓app0, ↓appC, ↓updS, ↓updN, ↓hpS, ↓hpN]) <;> first | rfl | assumption) | assumption | rfl); exact mkG_getR (rwV (fun i => n + 1 + 4 * i + 3) L) zL (by omega); rfl; rfl; rfl; rfl; (exact Nat.le_of_ble_eq_true rfl); rfl; rfl; rfl)
    refine rNil ?_
    refine qBlock ?_
    refine qSeq ?_
    refine wRegion ?_
    refine rmI rfl rfl rfl rfl rfl ?_
    refine raddF rfl rfl rfl ?_ ?_ rfl rfl rfl ?_
    · (first | omega | assumption | (focus (simp; omega)))
    · (first | omega | assumption | (focus (simp; omega)))
    refine raI rfl rfl rfl rfl rfl ?_
    refine rNil ?_
    refine qLoop ?_
    exact wlH (ih (i + 1) (by omega) (by omega)) (by (repeat first | exact LE.nil _ | refine LE.unk _ _ ?_ | refine LE.eq _ _ _ rfl ?_)) (by
      refine lessFam (m := n) hz (fun j hj => ?_) (fun j hj => ?_) (fun j hl hf hn => ?_)
      · refine Eq.trans ?_ (famA (w := fun i => n + 1 + 4 * i + 3) (fun a b _ _ e => by (try dsimp only at e); omega) hj).symm
        (try dsimp only)
        by_cases e : j = i
        · subst e
          (simp (disch := omega) only [↓app0, ↓appC, ↓updS, ↓updN, ↓hpS, ↓hpN]) <;> rfl
        · simp (disch := omega) only [↓appC, ↓updN, ↓app0]
          exact famA (w := fun i => n + 1 + 4 * i + 3) (fun a b _ _ e => by (try dsimp only at e); omega) (show j < i by omega)
      · simp only [List.map_cons, List.map_nil, List.mem_cons, List.not_mem_nil, or_false] at hj
        rw [hj]
        refine Eq.trans ?_ (famAO (fun k _ => by (try dsimp only); omega)).symm
        (simp (disch := omega) only [↓app0, ↓appC, ↓updS, ↓updN, ↓hpS, ↓hpN])
        exact congrArg (fun z => some (Blk.mk z 5 29)) (mkG_setR (rwV (fun i => n + 1 + 4 * i + 3) L) zL (m := L.length) (i := i) (by omega))
      · simp only [List.map_cons, List.map_nil, List.mem_cons, List.not_mem_nil, or_false] at hn
        simp (disch := omega) only [↓appC, ↓updN, ↓app0]
        have hf' : ∀ k, k < i → (fun i => n + 1 + 4 * i + 3) k ≠ j := fun k hk => hf k (Nat.lt_succ_of_lt hk)
        refine (famAO (w := fun i => n + 1 + 4 * i + 3) (n := i) hf').trans ?_
        (simp (disch := omega) only [↓app0, ↓appC, ↓updS, ↓updN, ↓hpS, ↓hpN])) (by omega)
  · refine rNil ?_
    refine qSeq ?_
    refine wF rfl ?_
    refine wExit ?_
    refine qSeqX ?_
    refine qLoopX ?_
    refine qBlockX ?_
    refine qSeq ?_
    refine wSeq ?_
    refine wRegion ?_
    refine rmV rfl rfl rfl rfl rfl ?_
    refine raV rfl rfl rfl rfl rfl ?_
    refine rNil ?_
    refine qSeq ?_
    refine wRet ?_
    obtain rfl : i = L.length := by omega
    refine finO rfl (congrArg (V.view n 0) hl) ?_ (Nat.le_refl _)
    rw [mkG_fullR]
    exact fun _ _ _ e => e
end Go.Proofs.Ytknnniaoboaghaa
