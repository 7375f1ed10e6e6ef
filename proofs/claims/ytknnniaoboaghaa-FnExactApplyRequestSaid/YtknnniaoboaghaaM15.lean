import Derived.Test.YtknnniaoboaghaaM14
namespace Go.Proofs.Ytknnniaoboaghaa
open Go.V
set_option linter.unusedVariables false
set_option linter.unusedSimpArgs false
set_option maxRecDepth 20000
set_option maxHeartbeats 4000000
theorem insRows2 {R : List (List V)} {i : Nat} {x y : List V} (hi : i ≤ R.length) (e : y = x) : List.drop 0 (List.drop 0 (List.drop 0 [] ++ List.take ((i : Int).toNat - Int.toNat 0) (List.drop (Int.toNat 0) R)) ++ [y]) ++ List.take ((R.length : Int).toNat - (i : Int).toNat) (List.drop (i : Int).toNat R) = R.take i ++ x :: R.drop i := by
 subst e
 have z0 : Int.toNat 0 = 0 := rfl
 simp only [List.drop_zero, List.nil_append, Int.toNat_natCast, z0, Nat.sub_zero]
 rw [List.take_of_length_le (l := R.drop i) (by simp)]
 simp
theorem insLen2 {R : List (List V)} {i len : Nat} {y : List V} (hl : R.length = len) (hi : i ≤ len) : 0 + (List.take ((i : Int).toNat - Int.toNat 0) (List.drop (Int.toNat 0) R)).length + [y].length + (List.take ((R.length : Int).toNat - (i : Int).toNat) (List.drop (i : Int).toNat R)).length = len + 1 := by
 have z0 : Int.toNat 0 = 0 := rfl
 simp only [List.length_take, List.length_drop, List.length_cons, List.length_nil, z0, Int.toNat_natCast]
 omega
theorem s68 (t : Tb) (b n1 n2 : Bool) (now : Int) (r : Rq) (bq : Bq t now r) (hw4 : ∀ i, i < t.lk.length → (t.lk.getD i Lk0).ws.length ≤ 100) (hhd1 : ∀ i, i < t.lk.length → -1 ≤ (t.lk.getD i Lk0).hd) (hhd2 : ∀ i, i < (exT t now).lk.length → -1 ≤ ((exT t now).lk.getD i Lk0).hd) (hkd : r.kd ≤ 4 ∧ 1 ≤ r.kd) : Pure En 68 [.agg (t.T b n1 n2), .one (.int .i64 now), .agg r.T] [.agg ((rqT t now r).1.T false false false), .agg (rqT t now r).2.T] := by
 have hs6 := bq.s6
 have hcl := bq.bd.cl
 refine Pure.of_wp Try.func68 rfl (Nat.le_of_ble_eq_true rfl) ?_
 refine wSeq (wRegion ?_)
 (refine rbx (u := .agg [.int .i64 t.tm, .int .i64 t.nx, .sl false n1 (t.lk.map (Lk.T b)), .sl false n2 (t.sn.map Sn.T)]) rfl rfl rfl rfl rfl rfl rfl ?_)
 refine rbx (u := .agg [.int _ _, .int _ _, .int _ _, .int _ _, .str _]) rfl rfl rfl rfl rfl rfl rfl (ral rfl rfl rfl rfl rfl rfl (ral rfl rfl rfl rfl rfl rfl (rNil (qSeq (wSeq (wRegion ?_))))))
 (apply rlr (vs := [.int _ _, .int _ _, _, _]) rfl rfl; exact Q0; exact Q13; rfl; (exact Nat.le_of_ble_eq_true rfl); rfl; rfl; rfl; rfl)
 refine rmI rfl rfl rfl rfl rfl ?_
 refine ropM (o58 t b n1 n2 false now rfl bq.hM bq.hn bq.hL (by have := bq.s6; omega) hw4 hhd1 bq.hwl) rfl rfl rfl rfl rfl rfl ?_
 rintro _ g1 m1 ⟨Sl1, Ss1, W1, rfl, TV, fr1, le1⟩ hc1 hl1
 have kcl1 := TV.kl.cell
 have kcs1 := TV.ks.cell
 refine ral rfl rfl rfl rfl rfl rfl ?_
 (apply rst (u := .agg [.int _ _, .int _ _, _, _]) rfl rfl rfl; exact Q0; exact Q13; rfl; rfl; rfl; exact Q7; (exact Nat.le_of_ble_eq_true rfl); rfl; rfl; rfl)
 refine rNil (qSeq (wSeq ?_))
 refine wpG fun g2 hg2 => ?_
 have T1 : TabM (exT t now) m1 Sl1 Ss1 W1 g2 (m1 + 1) := TV.toM ⟨by omega, .inl (Nat.le_refl _)⟩ (by omega) (by rw [hg2]; (simp (disch := (first | omega | assumption)) only [↓appC, ↓updN, ↓updS, ↓app0]); rfl) (fun a h1 h2 => by rw [hg2]; (simp (disch := (first | omega | assumption)) only [↓appC, ↓updN, ↓updS, ↓app0]))
 have q1 : g2 (0 + 1) = some ⟨[[.int .i64 r.cl, .int .i64 r.st, .int .i64 r.kd, .int .i64 r.le, .str r.nm]], 5, 64⟩ := by rw [hg2]; (simp (disch := (first | omega | assumption)) only [↓appC, ↓updN, ↓updS, ↓app0]); rw [fr1 (0 + 1) (by omega)]; (simp (disch := (first | omega | assumption)) only [↓appC, ↓updN, ↓updS, ↓app0]); rfl
 have q2 : g2 (0 + 1 + 1) = some ⟨[[.int .i64 0, .int .i64 0, .nsl, .nsl]], 4, 35⟩ := by rw [hg2]; (simp (disch := (first | omega | assumption)) only [↓appC, ↓updN, ↓updS, ↓app0]); rw [fr1 (0 + 1 + 1) (by omega)]; (simp (disch := (first | omega | assumption)) only [↓appC, ↓updN, ↓updS, ↓app0]); rfl
 have q3 : g2 (0 + 1 + 1 + 1) = some ⟨[[.int .i64 0, .int .i64 0, .int .i64 0, .int .i64 0]], 4, 60⟩ := by rw [hg2]; (simp (disch := (first | omega | assumption)) only [↓appC, ↓updN, ↓updS, ↓app0]); rw [fr1 (0 + 1 + 1 + 1) (by omega)]; (simp (disch := (first | omega | assumption)) only [↓appC, ↓updN, ↓updS, ↓app0]); rfl
 have kid1 : g2 m1 = some ⟨[[.int .i64 (exT t now).tm, .int .i64 (exT t now).nx, Sl1, Ss1]], 4, 35⟩ := T1.kid
 have ks1 : IsZ g2 Ss1 (t.sn.map Sn.V) 6 115 := T1.ks
 have hlen1 := lenZ ks1
 rw [List.length_map] at hlen1
 have kz1 := fun (h : 0 < t.sn.length) => kZ ks1 (by rw [List.length_map]; exact h)
 have hP1 : ∀ a, OwnT m1 Sl1 Ss1 W1 (exT t now).lk.length a → 0 + 1 + 1 + 1 + 1 ≤ a := fun a o => by have := TV.ownM a o; omega
 have fo1 : idZ Ss1 = 0 ∨ (0 + 1 + 1 + 1 + 1 ≤ idZ Ss1 ∧ idZ Ss1 < m1) := by
  unfold idZ
  cases hx : fpV Ss1 with
  | none => exact .inl rfl
  | some a => exact .inr (TV.fs a hx).1
 refine wRegion (raI rfl rfl rfl rfl rfl (rNil (qSeq (wSeq (wBlock (wLoop ?_))))))
 refine loopGo (fun (i : Nat) => [.unk, .unk, .unk, .unk, .unk, .ptr (0 + 1) 0 0, .ptr (0 + 1 + 1) 0 0, .ptr (0 + 1 + 1 + 1) 0 0, .ptr m1 0 0, .int .i64 i]) (fun (i : Nat) => g2) (fun (i : Nat) => m1 + 1) (fun (i : Nat) => i ≤ t.sn.length ∧ ∀ j, j < i → scl t.sn j < r.cl) (fun (i : Nat) => t.sn.length - i) 0 ?_ ?_ ?_ ?_ ?_
 ·exact ⟨Nat.zero_le _, all0⟩
 ·(repeat first | exact LE.nil _ | refine LE.unk _ _ ?_ | refine LE.eq _ _ _ rfl ?_)
 ·exact LessH.refl _
 ·exact Nat.le_refl _
 intro i hI ih
 refine lStep (wSeq (wSeq (wDraw [0, 0, 2, 6, 15, 31, 63, 127, 63, 511, 1023, 2047, 63, 4159, 16383, 32767] rfl (by decide +kernel) ?_)))
 refine dmI rfl rfl rfl rfl rfl (dfa (off := 3) (s := 1) (r := false) rfl rfl rfl (Nat.succ_ne_zero _) rfl rfl rfl ?_)
 (apply dlc (v := Ss1) rfl rfl; exact Q0; rfl; rfl; rfl; rfl; rfl; rfl)
 (refine dll rfl rfl hlen1 rfl rfl rfl ?_)
 refine dlt rfl rfl rfl rfl rfl rfl ?_ ?_ <;> intro h3_4
 ·refine dmB rfl rfl rfl rfl rfl (dfa (off := 3) (s := 1) (r := false) rfl rfl rfl (Nat.succ_ne_zero _) rfl rfl rfl ?_)
  (apply dlc (v := Ss1) rfl rfl; exact Q0; rfl; rfl; rfl; rfl; rfl; rfl)
  refine dmI rfl rfl rfl rfl rfl ?_
  (refine d0 ((op_index_Z (v := Ss1) rfl rfl rfl rfl (ks1) (by omega) (by rw [List.length_map]; omega)).to (v' := .ptr (idZ Ss1) i 0) (by rw [Int.toNat_natCast])) rfl rfl rfl ?_)
  refine dfa (off := 0) (s := 1) (r := false) rfl rfl rfl (Nat.succ_ne_zero _) rfl rfl rfl ?_
  (apply dlc (v := .int .i64 (t.sn.getD i Sn0).cl) rfl rfl; exact kz1 (by omega); exact snV_get (by omega); rfl; rfl; rfl; rfl; rfl)
  refine dfa (off := 0) (s := 1) (r := false) rfl rfl rfl (Nat.succ_ne_zero _) rfl rfl rfl ?_
  (apply dlc (v := .int _ _) rfl rfl; exact Q0; exact Q13; rfl; rfl; rfl; rfl; rfl)
  refine dlt rfl rfl rfl rfl rfl rfl ?_ ?_ <;> intro h3_14
  ·refine dpk (e := true) rfl rfl rfl rfl rfl rfl (dNilR 16 [0, 0, 1, 0, 1, 0, 1, 0, 1, 0, 0, 0, 0, 1, 0, 0] [] rfl rfl (by decide +kernel) trivial ?_)
   refine qSeq (wT rfl (wSkip (qSeq (wBlock (wRegion (rmI rfl rfl rfl rfl rfl (raddF rfl rfl rfl ?_ ?_ rfl rfl rfl ?_)))))))
   ·exact Q5
   ·exact Q5
   refine raI rfl rfl rfl rfl rfl (rNil (qBlock (qLoop ?_)))
   exact wlH (ih (i + 1) ⟨by omega, allS hI.2 h3_14⟩ (by omega)) (by (repeat first | exact LE.nil _ | refine LE.unk _ _ ?_ | refine LE.eq _ _ _ rfl ?_)) (LessH.refl _) (Nat.le_refl _)
  ·refine dpk (e := false) rfl rfl rfl rfl rfl rfl (dNilR 16 [0, 0, 1, 0, 1, 0, 1, 0, 1, 0, 0, 0, 0, 1, 0, 0] [] rfl rfl (by decide +kernel) trivial ?_)
   refine qSeq (wF rfl (wExit (qSeqX (qLoopX (qBlockX (qSeq (wSeq ?_)))))))
   have hp : snP r.cl t.sn = i := by
    first
    | exact snP_eq hI.1 hI.2 (fun _ => h3_14)
    | exact snP_eq hI.1 hI.2 (fun h => absurd h (by omega))
   refine wDraw [0, 0, 2, 6, 15, 31, 63, 127, 63, 511, 1023, 2047, 63, 4159, 16383, 32767, 65535] rfl (by decide +kernel) ?_
   refine dmI rfl rfl rfl rfl rfl (dfa (off := 3) (s := 1) (r := false) rfl rfl rfl (Nat.succ_ne_zero _) rfl rfl rfl ?_)
   (apply dlc (v := Ss1) rfl rfl; exact Q0; rfl; rfl; rfl; rfl; rfl; rfl)
   (refine dll rfl rfl hlen1 rfl rfl rfl ?_)
   refine dlt rfl rfl rfl rfl rfl rfl ?_ (fun h => absurd (by omega) h)
   intro h5_4
   refine dmB rfl rfl rfl rfl rfl (dfa (off := 3) (s := 1) (r := false) rfl rfl rfl (Nat.succ_ne_zero _) rfl rfl rfl ?_)
   (apply dlc (v := Ss1) rfl rfl; exact Q0; rfl; rfl; rfl; rfl; rfl; rfl)
   refine dmI rfl rfl rfl rfl rfl ?_
   (refine d0 ((op_index_Z (v := Ss1) rfl rfl rfl rfl (ks1) (by omega) (by rw [List.length_map]; omega)).to (v' := .ptr (idZ Ss1) i 0) (by rw [Int.toNat_natCast])) rfl rfl rfl ?_)
   refine dfa (off := 0) (s := 1) (r := false) rfl rfl rfl (Nat.succ_ne_zero _) rfl rfl rfl ?_
   (apply dlc (v := .int .i64 (t.sn.getD i Sn0).cl) rfl rfl; exact kz1 (by omega); exact snV_get (by omega); rfl; rfl; rfl; rfl; rfl)
   refine dfa (off := 0) (s := 1) (r := false) rfl rfl rfl (Nat.succ_ne_zero _) rfl rfl rfl ?_
   (apply dlc (v := .int _ _) rfl rfl; exact Q0; exact Q13; rfl; rfl; rfl; rfl; rfl)
   refine deq rfl rfl rfl rfl rfl rfl ?_ ?_ <;> intro h5_14
   ·refine dpk (e := true) rfl rfl rfl rfl rfl rfl (daB rfl rfl rfl rfl rfl (dNilR 17 [0, 0, 0, 1, 0, 1, 0, 1, 0, 1, 0, 0, 0, 0, 1, 0, 0] [] rfl rfl (by decide +kernel) trivial ?_))
    refine qSeq (wSeq (wBlock (wSeq ?_)))
    have hcase : (i < t.sn.length ∧ (t.sn.getD i Sn0).cl = r.cl ∧ snH r.cl t.sn) ∨ (¬ snH r.cl t.sn) := by
     by_cases hs : snH r.cl t.sn
     ·left; have h1 := hs.1; have h2 := hs.2; rw [hp] at h1 h2; exact ⟨h1, h2, hs⟩
     ·exact .inr hs
    have hsn : (i < t.sn.length ∧ (t.sn.getD i Sn0).cl = r.cl) → snH r.cl t.sn := fun h => by unfold snH; rw [hp]; exact h
    refine wDraw [0, 1, 3, 7, 3, 31, 63, 127, 3, 259, 1023, 2047, 4095] rfl (by decide +kernel) ?_
    refine dmB rfl rfl rfl rfl rfl (dmB rfl rfl rfl rfl rfl (dfa (off := 3) (s := 1) (r := false) rfl rfl rfl (Nat.succ_ne_zero _) rfl rfl rfl ?_))
    (apply dlc (v := Ss1) rfl rfl; exact Q0; rfl; rfl; rfl; rfl; rfl; rfl)
    refine dmI rfl rfl rfl rfl rfl ?_
    (refine d0 ((op_index_Z (v := Ss1) rfl rfl rfl rfl (ks1) (by omega) (by rw [List.length_map]; omega)).to (v' := .ptr (idZ Ss1) i 0) (by rw [Int.toNat_natCast])) rfl rfl rfl ?_)
    refine dfa (off := 1) (s := 1) (r := false) rfl rfl rfl (Nat.succ_ne_zero _) rfl rfl rfl ?_
    (apply dlc (v := .int .i64 (t.sn.getD i Sn0).st) rfl rfl; exact kz1 (by omega); exact snV_get (by omega); rfl; rfl; rfl; rfl; rfl)
    refine dfa (off := 1) (s := 1) (r := false) rfl rfl rfl (Nat.succ_ne_zero _) rfl rfl rfl ?_
    (apply dlc (v := .int _ _) rfl rfl; exact Q0; exact Q13; rfl; rfl; rfl; rfl; rfl)
    refine deq rfl rfl rfl rfl rfl rfl ?_ ?_ <;> intro h6_10
    ·refine dpk (e := true) rfl rfl rfl rfl rfl rfl (daB rfl rfl rfl rfl rfl (dNilR 13 [0, 0, 0, 1, 0, 1, 0, 1, 0, 1, 0, 0, 0] [] rfl rfl (by decide +kernel) trivial ?_))
     refine qSeq (wT rfl (wSeq (wDraw [0, 0, 2, 0, 14, 30, 62, 1, 255] rfl (by decide +kernel) ?_)))
     (apply dlr (vs := [.int .i64 (exT t now).tm, .int .i64 (exT t now).nx, Sl1, Ss1]) rfl rfl; exact Q0; rfl; rfl; (exact Nat.le_of_ble_eq_true rfl); rfl; rfl; rfl; rfl)
     refine dfa (off := 3) (s := 1) (r := false) rfl rfl rfl (Nat.succ_ne_zero _) rfl rfl rfl ?_
     (apply dlc (v := Ss1) rfl rfl; exact Q0; rfl; rfl; rfl; rfl; rfl; rfl)
     refine dmI rfl rfl rfl rfl rfl ?_
     (refine d0 ((op_index_Z (v := Ss1) rfl rfl rfl rfl (ks1) (by omega) (by rw [List.length_map]; omega)).to (v' := .ptr (idZ Ss1) i 0) (by rw [Int.toNat_natCast])) rfl rfl rfl ?_)
     refine dfa (off := 2) (s := 4) (r := true) rfl rfl rfl (Nat.succ_ne_zero _) rfl rfl rfl ?_
     (apply dlr (vs := [.int .i64 (t.sn.getD i Sn0).an.kd, .int .i64 (t.sn.getD i Sn0).an.tk, .int .i64 (t.sn.getD i Sn0).an.hd, .int .i64 (t.sn.getD i Sn0).an.ex]) rfl rfl; exact kz1 (by omega); exact snV_get (by omega); rfl; (exact Nat.le_of_ble_eq_true rfl); rfl; rfl; rfl; rfl)
     (apply dst (u := .agg [.int _ _, .int _ _, _, _]) rfl rfl rfl; exact Q0; exact Q13; rfl; rfl; rfl; exact Q7; (exact Nat.le_of_ble_eq_true rfl); rfl; rfl; rfl)
     (apply dst (u := .agg [.int _ _, .int _ _, .int _ _, .int _ _]) rfl rfl rfl; exact Q0; exact Q13; rfl; rfl; rfl; exact Q7; (exact Nat.le_of_ble_eq_true rfl); rfl; rfl; rfl)
     refine dNilR 9 [3, 3, 1, 0, 1, 0, 1, 0, 1] [(2, 7), (4, 7), (6, 7)] rfl rfl (by decide +kernel) ?_ ?_
     ·(first | (focus (simp [ClearL, ids]; done)) | (focus (simp [ClearL, ids]; omega)) | (simp [ClearL, ids, Env.eval, upd]; (repeat' (first | omega | (intro hx; have := fo4 _ _ _ hx; omega) | apply And.intro))))
     refine qSeq (wRet (qBlockR (qSeqR ?_)))
     have e : rqT t now r = (exT t now, (t.sn.getD i Sn0).an) := by
      unfold rqT; rw [reqT_same (t := exT t now) (hsn ⟨by omega, by omega⟩) (by show (t.sn.getD (snP r.cl t.sn) Sn0).st = r.st; rw [hp]; exact h6_10)]
      show (_, (t.sn.getD (snP r.cl t.sn) Sn0).an) = _; rw [hp]
     rw [e]
     refine finS (tabIds Sl1 Ss1 W1 (exT t now).lk.length) (resL_cons (resV_row rfl (by exact Q0) rfl rfl (Nat.le_of_ble_eq_true rfl) rfl) (resL_cons (resV_row rfl (by exact Q0) rfl rfl (Nat.le_of_ble_eq_true rfl) rfl) resL_nil)) ?_
     refine SnapL.cons _ _ _ _ (snapTab (t := exT t now) ?_ ?_ (fun j hj => ?_) (fun a ha => ha)) (SnapL.cons _ _ _ _ (SnapC.agg (.cons _ _ _ _ (.int _ _) (.cons _ _ _ _ (.int _ _) (.cons _ _ _ _ (.int _ _) (.cons _ _ _ _ (.int _ _) .nil))))) SnapL.nil)
     ·exact T1.kl.mono (fun a ha => by have q := hP1 a (.inr (.inl ha)); (simp (disch := (first | omega | assumption)) only [↓appC, ↓updN, ↓updS, ↓app0]))
     ·exact T1.ks.mono (fun a ha => by have q := hP1 a (.inr (.inr (.inl ha))); (simp (disch := (first | omega | assumption)) only [↓appC, ↓updN, ↓updS, ↓app0]))
     ·exact (T1.kw j hj).mono (fun a ha => by have q := hP1 a (.inr (.inr (.inr ⟨j, hj, ha⟩))); (simp (disch := (first | omega | assumption)) only [↓appC, ↓updN, ↓updS, ↓app0]))
    ·refine dpk (e := false) rfl rfl rfl rfl rfl rfl (daB rfl rfl rfl rfl rfl (dNilR 13 [0, 0, 0, 1, 0, 1, 0, 1, 0, 1, 0, 0, 0] [] rfl rfl (by decide +kernel) trivial ?_))
     refine qSeq (wF rfl (wSeq (wDraw [0, 1, 3, 7, 3, 31, 63, 127, 3, 259, 1023, 2047, 4095] rfl (by decide +kernel) ?_)))
     refine dmB rfl rfl rfl rfl rfl (dmB rfl rfl rfl rfl rfl (dfa (off := 3) (s := 1) (r := false) rfl rfl rfl (Nat.succ_ne_zero _) rfl rfl rfl ?_))
     (apply dlc (v := Ss1) rfl rfl; exact Q0; rfl; rfl; rfl; rfl; rfl; rfl)
     refine dmI rfl rfl rfl rfl rfl ?_
     (refine d0 ((op_index_Z (v := Ss1) rfl rfl rfl rfl (ks1) (by omega) (by rw [List.length_map]; omega)).to (v' := .ptr (idZ Ss1) i 0) (by rw [Int.toNat_natCast])) rfl rfl rfl ?_)
     refine dfa (off := 1) (s := 1) (r := false) rfl rfl rfl (Nat.succ_ne_zero _) rfl rfl rfl ?_
     (apply dlc (v := .int .i64 (t.sn.getD i Sn0).st) rfl rfl; exact kz1 (by omega); exact snV_get (by omega); rfl; rfl; rfl; rfl; rfl)
     refine dfa (off := 1) (s := 1) (r := false) rfl rfl rfl (Nat.succ_ne_zero _) rfl rfl rfl ?_
     (apply dlc (v := .int _ _) rfl rfl; exact Q0; exact Q13; rfl; rfl; rfl; rfl; rfl)
     refine dgt rfl rfl rfl rfl rfl rfl ?_ ?_ <;> intro h8_10
     ·refine dpk (e := true) rfl rfl rfl rfl rfl rfl (daB rfl rfl rfl rfl rfl (dNilR 13 [0, 0, 0, 1, 0, 1, 0, 1, 0, 1, 0, 0, 0] [] rfl rfl (by decide +kernel) trivial ?_))
      refine qSeq (wT rfl (wSeq (wRegion ?_)))
      (apply rlr (vs := [.int .i64 (exT t now).tm, .int .i64 (exT t now).nx, Sl1, Ss1]) rfl rfl; exact Q0; rfl; rfl; (exact Nat.le_of_ble_eq_true rfl); rfl; rfl; rfl; rfl)
      refine rbd (cs := [.int _ _, .int _ _, .int _ _, .int _ _]) rfl rfl rfl rfl rfl ?_
      (apply rst (u := .agg [.int _ _, .int _ _, _, _]) rfl rfl rfl; exact Q0; exact Q13; rfl; rfl; rfl; exact Q7; (exact Nat.le_of_ble_eq_true rfl); rfl; rfl; rfl)
      (apply rst (u := .agg [.int _ _, .int _ _, .int _ _, .int _ _]) rfl rfl rfl; exact Q0; exact Q13; rfl; rfl; rfl; exact Q7; (exact Nat.le_of_ble_eq_true rfl); rfl; rfl; rfl)
      refine rNil (qSeq (wRet (qBlockR (qSeqR ?_))))
      have e : rqT t now r = (exT t now, bareA 7) := by
       unfold rqT; exact reqT_old (t := exT t now) (hsn ⟨by omega, by omega⟩) (by show ¬ (t.sn.getD (snP r.cl t.sn) Sn0).st = r.st; rw [hp]; exact h6_10) (by show (t.sn.getD (snP r.cl t.sn) Sn0).st > r.st; rw [hp]; exact h8_10)
      rw [e]
      refine finS (tabIds Sl1 Ss1 W1 (exT t now).lk.length) (resL_cons (resV_row rfl (by exact Q0) rfl rfl (Nat.le_of_ble_eq_true rfl) rfl) (resL_cons (resV_row rfl (by exact Q0) rfl rfl (Nat.le_of_ble_eq_true rfl) rfl) resL_nil)) ?_
      refine SnapL.cons _ _ _ _ (snapTab (t := exT t now) ?_ ?_ (fun j hj => ?_) (fun a ha => ha)) (SnapL.cons _ _ _ _ (SnapC.agg (.cons _ _ _ _ (.int _ _) (.cons _ _ _ _ (.int _ _) (.cons _ _ _ _ (.int _ _) (.cons _ _ _ _ (.int _ _) .nil))))) SnapL.nil)
      ·exact T1.kl.mono (fun a ha => by have q := hP1 a (.inr (.inl ha)); (simp (disch := (first | omega | assumption)) only [↓appC, ↓updN, ↓updS, ↓app0]))
      ·exact T1.ks.mono (fun a ha => by have q := hP1 a (.inr (.inr (.inl ha))); (simp (disch := (first | omega | assumption)) only [↓appC, ↓updN, ↓updS, ↓app0]))
      ·exact (T1.kw j hj).mono (fun a ha => by have q := hP1 a (.inr (.inr (.inr ⟨j, hj, ha⟩))); (simp (disch := (first | omega | assumption)) only [↓appC, ↓updN, ↓updS, ↓app0]))
     ·refine dpk (e := false) rfl rfl rfl rfl rfl rfl (daB rfl rfl rfl rfl rfl (dNilR 13 [0, 0, 0, 1, 0, 1, 0, 1, 0, 1, 0, 0, 0] [] rfl rfl (by decide +kernel) trivial ?_))
      refine qSeq (wF rfl (wSeq (wRegion (rmB rfl rfl rfl rfl rfl (rnot (c := true) rfl rfl rfl rfl rfl (rmB rfl rfl rfl rfl rfl (rSkip rfl rfl rfl (rSkip rfl rfl rfl (rSkip rfl rfl rfl (rSkip rfl rfl rfl (rpk (e := false) rfl rfl rfl rfl rfl rfl (raB rfl rfl rfl rfl rfl ?_))))))))))))
      refine rNil (qSeq (wF rfl (wSkip (qBlock (qSeq (wSeq (wRegion ?_)))))))
      (apply rlr (vs := [.int _ _, .int _ _, .int _ _, .int _ _, .str _]) rfl rfl; exact Q0; exact Q13; rfl; (exact Nat.le_of_ble_eq_true rfl); rfl; rfl; rfl; rfl)
      refine ropM (o106 (exT t now) r bq.bd hhd2 T1 hkd) rfl rfl rfl rfl rfl rfl ?_
      rintro _ g3 m2 ⟨rfl, S2⟩ hc2 hl2
      obtain ⟨Sl2, Ss2, W2, T2, x1, x2, x3⟩ := S2
      have hO1 : ∀ a, OwnT m1 Sl1 Ss1 W1 (exT t now).lk.length a → 4 ≤ a := fun a o => by have := TV.ownM a o; omega
      have hO : ∀ a, OwnT m1 Sl2 Ss2 W2 (doT (exT t now) r).1.lk.length a → 4 ≤ a := fun a o => (x1 a o).elim (fun e => hO1 a e) (fun e => by omega)
      have p1 : g3 (0 + 1) = some ⟨[[.int .i64 r.cl, .int .i64 r.st, .int .i64 r.kd, .int .i64 r.le, .str r.nm]], 5, 64⟩ := by rw [x2 (0 + 1) (by omega) (fun o => by have := hO1 _ o; omega)]; exact q1
      have p2 : g3 (0 + 1 + 1) = some ⟨[[.int .i64 0, .int .i64 0, .nsl, .nsl]], 4, 35⟩ := by rw [x2 (0 + 1 + 1) (by omega) (fun o => by have := hO1 _ o; omega)]; exact q2
      have p3 : g3 (0 + 1 + 1 + 1) = some ⟨[[.int .i64 0, .int .i64 0, .int .i64 0, .int .i64 0]], 4, 60⟩ := by rw [x2 (0 + 1 + 1 + 1) (by omega) (fun o => by have := hO1 _ o; omega)]; exact q3
      have kid2 : g3 m1 = some ⟨[[.int .i64 (doT (exT t now) r).1.tm, .int .i64 (doT (exT t now) r).1.nx, Sl2, Ss2]], 4, 35⟩ := T2.kid
      have ks2 : IsZ g3 Ss2 (t.sn.map Sn.V) 6 115 := by have := T2.ks; rwa [doT_sn] at this
      have kcl2 := T2.kl.cell
      have kcs2 := ks2.cell
      have hlen2 := lenZ ks2
      rw [List.length_map] at hlen2
      have kz2 := fun (h : 0 < t.sn.length) => kZ ks2 (by rw [List.length_map]; exact h)
      have fz2 := fun (h : 0 < t.sn.length) => T2.fs _ (fpZ ks2 (by rw [List.length_map]; exact h))
      have fo3 : idZ Ss2 < m2 ∧ idZ Ss2 ≠ m1 := by
       unfold idZ
       cases hx : fpV Ss2 with
       | none => exact ⟨by show 0 < m2; omega, by show 0 ≠ m1; omega⟩
       | some a => have := T2.fs a hx; exact ⟨this.1, this.2.1⟩
      have fo4 : ∀ a b x, x ∈ srcIds (slZ Ss2 a b) → x < m2 ∧ x ≠ m1 := fun a b x hx => by rw [idsZ _ _ _ x hx]; exact fo3
      have fo2 := fun (h : 0 < t.sn.length) => hO _ (.inr (.inr (.inl (fpZ ks2 (by rw [List.length_map]; exact h)))))
      refine ral rfl rfl rfl rfl rfl rfl ?_
      (apply rst (u := .agg [.int _ _, .int _ _, .int _ _, .int _ _]) rfl rfl rfl; exact Q0; exact Q13; rfl; rfl; rfl; exact Q7; (exact Nat.le_of_ble_eq_true rfl); rfl; rfl; rfl)
      refine rNil (qSeq (wSeq (wRegion (rfa (off := 0) (s := 1) (r := false) rfl rfl rfl (Nat.succ_ne_zero _) rfl rfl rfl ?_))))
      (apply rlc (v := .int _ _) rfl rfl; exact Q0; exact Q13; rfl; rfl; rfl; rfl; rfl)
      refine rfa (off := 1) (s := 1) (r := false) rfl rfl rfl (Nat.succ_ne_zero _) rfl rfl rfl ?_
      (apply rlc (v := .int _ _) rfl rfl; exact Q0; exact Q13; rfl; rfl; rfl; rfl; rfl)
      (apply rlr (vs := [.int _ _, .int _ _, .int _ _, .int _ _]) rfl rfl; exact Q0; exact Q13; rfl; (exact Nat.le_of_ble_eq_true rfl); rfl; rfl; rfl; rfl)
      refine rbd (cs := [.int _ _, .int _ _, .int _ _, .int _ _, .int _ _, .int _ _]) rfl rfl rfl rfl rfl (ral rfl rfl rfl rfl rfl rfl ?_)
      (apply rst (u := .agg [.int _ _, .int _ _, .int _ _, .int _ _, .int _ _, .int _ _]) rfl rfl rfl; exact Q0; exact Q13; rfl; rfl; rfl; exact Q7; (exact Nat.le_of_ble_eq_true rfl); rfl; rfl; rfl)
      refine rNil (qSeq (wSeq (wSeq (wRegion (rmB rfl rfl rfl rfl rfl (rNil (qSeq (wT rfl ?_))))))))
      have fzA := fz2 (by omega)
      have fzB := fo2 (by omega)
      have fzC := fzA.1; have fzD := fzA.2.1
      have kzA := kz2 (by omega)
      have snA := snV_get (L := t.sn) (k := i) (by omega)
      refine wRegion (rfa (off := 3) (s := 1) (r := false) rfl rfl rfl (Nat.succ_ne_zero _) rfl rfl rfl ?_)
      (apply rlc (v := Ss2) rfl rfl; exact Q0; rfl; rfl; rfl; rfl; rfl; rfl)
      refine rmI rfl rfl rfl rfl rfl ?_
      (apply rlr (vs := [.int _ _, .int _ _, .int _ _, .int _ _, .int _ _, .int _ _]) rfl rfl; exact Q0; exact Q13; rfl; (exact Nat.le_of_ble_eq_true rfl); rfl; rfl; rfl; rfl)
      (refine r0 ((op_index_Z (v := Ss2) rfl rfl rfl rfl (ks2.mono (fun a ha => by have q := T2.fs a ha; have qa := q.1; have qb := q.2.1; have qc := hO a (.inr (.inr (.inl ha))); (simp (disch := (first | omega | assumption)) only [↓appC, ↓updN, ↓updS, ↓app0]))) (by omega) (by rw [List.length_map]; omega)).to (v' := .ptr (idZ Ss2) i 0) (by rw [Int.toNat_natCast])) rfl rfl rfl ?_)
      (apply rst (u := .agg [.int _ _, .int _ _, .int _ _, .int _ _, .int _ _, .int _ _]) rfl rfl rfl; exact Q0; exact Q13; rfl; rfl; rfl; exact Q7; (exact Nat.le_of_ble_eq_true rfl); rfl; rfl; rfl)
      refine rNil (qSeq (wSeq (wDraw [0, 0, 1, 7] rfl (by decide +kernel) ?_)))
      (apply dlr (vs := [.int _ _, .int _ _, _, _]) rfl rfl; exact Q0; exact Q13; rfl; (exact Nat.le_of_ble_eq_true rfl); rfl; rfl; rfl; rfl)
      (apply dlr (vs := [.int _ _, .int _ _, .int _ _, .int _ _]) rfl rfl; exact Q0; exact Q13; rfl; (exact Nat.le_of_ble_eq_true rfl); rfl; rfl; rfl; rfl)
      (apply dst (u := .agg [.int _ _, .int _ _, _, _]) rfl rfl rfl; exact Q0; exact Q13; rfl; rfl; rfl; exact Q7; (exact Nat.le_of_ble_eq_true rfl); rfl; rfl; rfl)
      (apply dst (u := .agg [.int _ _, .int _ _, .int _ _, .int _ _]) rfl rfl rfl; exact Q0; exact Q13; rfl; rfl; rfl; exact Q7; (exact Nat.le_of_ble_eq_true rfl); rfl; rfl; rfl)
      refine dNilR 4 [3, 3, 1, 1] [(1, 2)] rfl rfl (by decide +kernel) ?_ ?_
      ·(first | (focus (simp [ClearL, ids]; done)) | (focus (simp [ClearL, ids]; omega)) | (simp [ClearL, ids, Env.eval, upd]; (repeat' (first | omega | (intro hx; have := fo4 _ _ _ hx; omega) | apply And.intro))))
      refine qSeq (wRet ?_)
      first
      |(have hthere := hsn ⟨by omega, by omega⟩
        obtain ⟨sb, esb, ksb⟩ := ks2.some (by rw [List.length_map]; omega)
        rw [List.length_map] at esb
        have eid : idZ Ss2 = sb := by rw [esb]; rfl
        have fsb : fpV Ss2 = some (idZ Ss2) := by rw [esb]; rfl
        have fzA := fz2 (by omega)
        have fzB := fo2 (by omega)
        have e : rqT t now r = (⟨(doT (exT t now) r).1.tm, (doT (exT t now) r).1.nx, (doT (exT t now) r).1.lk, t.sn.set i ⟨r.cl, r.st, (doT (exT t now) r).2⟩⟩, (doT (exT t now) r).2) := by
         unfold rqT; rw [reqT_next (t := exT t now) hthere (by show ¬ (t.sn.getD (snP r.cl t.sn) Sn0).st = r.st; rw [hp]; exact h6_10) (by show ¬ (t.sn.getD (snP r.cl t.sn) Sn0).st > r.st; rw [hp]; exact h8_10)]
         show (Tb.mk _ _ _ (t.sn.set (snP r.cl t.sn) _), _) = _; rw [hp]
        rw [e]
        refine finS (tabIds Sl2 Ss2 W2 (doT (exT t now) r).1.lk.length) (resL_cons (resV_row rfl (by exact Q0) rfl rfl (Nat.le_of_ble_eq_true rfl) rfl) (resL_cons (resV_row rfl (by exact Q0) rfl rfl (Nat.le_of_ble_eq_true rfl) rfl) resL_nil)) ?_
        refine SnapL.cons _ _ _ _ (snapTab (t := ⟨(doT (exT t now) r).1.tm, (doT (exT t now) r).1.nx, (doT (exT t now) r).1.lk, t.sn.set i ⟨r.cl, r.st, (doT (exT t now) r).2⟩⟩) ?_ ?_ (fun j hj => ?_) (fun a ha => ha)) (SnapL.cons _ _ _ _ (SnapC.agg (.cons _ _ _ _ (.int _ _) (.cons _ _ _ _ (.int _ _) (.cons _ _ _ _ (.int _ _) (.cons _ _ _ _ (.int _ _) .nil))))) SnapL.nil)
        focus (exact T2.kl.mono (fun a ha => by have q := hO a (.inr (.inl ha)); have q9 := T2.lt (a := a) (.inr (.inl ha)); have q8 : a ≠ idZ Ss2 := fun e => fzA.2.2 (by rw [← e]; exact ha); have q7 : a ≠ m1 := (T2.fl a ha).2; (simp (disch := (first | omega | assumption)) only [↓appC, ↓updN, ↓updS, ↓app0])))
        rotate_left
        focus (exact (T2.kw j hj).mono (fun a ha => by have q := hO a (.inr (.inr (.inr ⟨j, hj, ha⟩))); have q9 := T2.lt (a := a) (.inr (.inr (.inr ⟨j, hj, ha⟩))); have q8 : a ≠ idZ Ss2 := fun e => (T2.fw j a hj ha).2.2.2.1 (by rw [e]; exact fsb); have q7 : a ≠ m1 := (T2.fw j a hj ha).2.1; (simp (disch := (first | omega | assumption)) only [↓appC, ↓updN, ↓updS, ↓app0])))
        refine .inr ⟨idZ Ss2, by rw [List.length_map, List.length_set, eid]; exact esb, ?_⟩
        (simp (disch := (first | omega | assumption)) only [↓appC, ↓updN, ↓updS, ↓app0])
        exact congrArg (fun z => some (Blk.mk z 6 115)) (by rw [List.map_set]; rfl))
      |(have hnot := (show ¬ snH r.cl t.sn by unfold snH; rw [hp]; intro hx; have hx1 := hx.1; have hx2 := hx.2; omega)
        have e : rqT t now r = (⟨(doT (exT t now) r).1.tm, (doT (exT t now) r).1.nx, (doT (exT t now) r).1.lk, insL t.sn i ⟨r.cl, r.st, (doT (exT t now) r).2⟩⟩, (doT (exT t now) r).2) := by
         unfold rqT; rw [reqT_new (t := exT t now) hnot (by show ¬ t.sn.length = 6; omega)]
         show (Tb.mk _ _ _ (insL t.sn (snP r.cl t.sn) _), _) = _; rw [hp]
        rw [e]
        refine finS (tabIds Sl2 (.view (m2 + 1 + 1 + 1 + 1 + 1 + 1) 0 0) W2 (doT (exT t now) r).1.lk.length) (resL_cons (resV_row rfl (by exact Q0) rfl rfl (Nat.le_of_ble_eq_true rfl) rfl) (resL_cons (resV_row rfl (by exact Q0) rfl rfl (Nat.le_of_ble_eq_true rfl) rfl) resL_nil)) ?_
        refine SnapL.cons _ _ _ _ (snapTab (t := ⟨(doT (exT t now) r).1.tm, (doT (exT t now) r).1.nx, (doT (exT t now) r).1.lk, insL t.sn i ⟨r.cl, r.st, (doT (exT t now) r).2⟩⟩) ?_ ?_ (fun j hj => ?_) (fun a ha => ha)) (SnapL.cons _ _ _ _ (SnapC.agg (.cons _ _ _ _ (.int _ _) (.cons _ _ _ _ (.int _ _) (.cons _ _ _ _ (.int _ _) (.cons _ _ _ _ (.int _ _) .nil))))) SnapL.nil)
        focus (exact T2.kl.mono (fun a ha => by have q := hO a (.inr (.inl ha)); have q9 := T2.lt (a := a) (.inr (.inl ha)); have q7 : a ≠ m1 := (T2.fl a ha).2; (simp (disch := (first | omega | assumption)) only [↓appC, ↓updN, ↓updS, ↓app0])))
        rotate_left
        focus (exact (T2.kw j hj).mono (fun a ha => by have q := hO a (.inr (.inr (.inr ⟨j, hj, ha⟩))); have q9 := T2.lt (a := a) (.inr (.inr (.inr ⟨j, hj, ha⟩))); have q7 : a ≠ m1 := (T2.fw j a hj ha).2.1; (simp (disch := (first | omega | assumption)) only [↓appC, ↓updN, ↓updS, ↓app0])))
        refine .inr ⟨m2 + 1 + 1 + 1 + 1 + 1 + 1, congrArg (V.view _ 0) ((insLen2 (List.length_map ..) hI.1).trans (by rw [List.length_map, insL_len hI.1])), ?_⟩
        (simp (disch := (first | omega | assumption)) only [↓appC, ↓updN, ↓updS, ↓app0])
        exact congrArg (fun z => some (Blk.mk z 6 115)) ((insRows2 (by rw [List.length_map]; exact hI.1) rfl).trans (insL_map Sn.V t.sn i ⟨r.cl, r.st, (doT (exT t now) r).2⟩).symm))
   ·refine dpk (e := false) rfl rfl rfl rfl rfl rfl (daB rfl rfl rfl rfl rfl (dNilR 17 [0, 0, 0, 1, 0, 1, 0, 1, 0, 1, 0, 0, 0, 0, 1, 0, 0] [] rfl rfl (by decide +kernel) trivial ?_))
    refine qSeq (wSeq (wBlock (wSeq ?_)))
    have hcase : (i < t.sn.length ∧ (t.sn.getD i Sn0).cl = r.cl ∧ snH r.cl t.sn) ∨ (¬ snH r.cl t.sn) := by
     by_cases hs : snH r.cl t.sn
     ·left; have h1 := hs.1; have h2 := hs.2; rw [hp] at h1 h2; exact ⟨h1, h2, hs⟩
     ·exact .inr hs
    have hsn : (i < t.sn.length ∧ (t.sn.getD i Sn0).cl = r.cl) → snH r.cl t.sn := fun h => by unfold snH; rw [hp]; exact h
    refine wDraw [0, 1, 3, 7, 3, 31, 63, 127, 3, 259, 1023, 2047, 4095] rfl (by decide +kernel) ?_
    refine dmB rfl rfl rfl rfl rfl (dmB rfl rfl rfl rfl rfl (dSkip rfl rfl rfl (dSkip rfl rfl rfl (dSkip rfl rfl rfl (dSkip rfl rfl rfl (dSkip rfl rfl rfl (dSkip rfl rfl rfl (dSkip rfl rfl rfl (dSkip rfl rfl rfl (dSkip rfl rfl rfl (dpk (e := false) rfl rfl rfl rfl rfl rfl (daB rfl rfl rfl rfl rfl ?_))))))))))))
    refine dNilR 13 [0, 0, 0, 0, 0, 0, 0, 0, 0, 0, 0, 0, 0] [] rfl rfl (by decide +kernel) trivial ?_
    refine qSeq (wF rfl (wSeq (wDraw [0, 1, 3, 7, 3, 31, 63, 127, 3, 259, 1023, 2047, 4095] rfl (by decide +kernel) ?_)))
    refine dmB rfl rfl rfl rfl rfl (dmB rfl rfl rfl rfl rfl (dSkip rfl rfl rfl (dSkip rfl rfl rfl (dSkip rfl rfl rfl (dSkip rfl rfl rfl (dSkip rfl rfl rfl (dSkip rfl rfl rfl (dSkip rfl rfl rfl (dSkip rfl rfl rfl (dSkip rfl rfl rfl (dpk (e := false) rfl rfl rfl rfl rfl rfl (daB rfl rfl rfl rfl rfl ?_))))))))))))
    refine dNilR 13 [0, 0, 0, 0, 0, 0, 0, 0, 0, 0, 0, 0, 0] [] rfl rfl (by decide +kernel) trivial ?_
    refine qSeq (wF rfl (wSeq (wRegion (rmB rfl rfl rfl rfl rfl (rnot (c := false) rfl rfl rfl rfl rfl (rmB rfl rfl rfl rfl rfl (rfa (off := 3) (s := 1) (r := false) rfl rfl rfl (Nat.succ_ne_zero _) rfl rfl rfl ?_)))))))
    (apply rlc (v := Ss1) rfl rfl; exact Q0; rfl; rfl; rfl; rfl; rfl; rfl)
    (refine rll rfl rfl hlen1 rfl rfl rfl ?_)
    refine req rfl rfl rfl rfl rfl rfl ?_ ?_ <;> intro h10_6
    ·refine rpk (e := true) rfl rfl rfl rfl rfl rfl (raB rfl rfl rfl rfl rfl (rNil (qSeq (wT rfl (wSeq (wRegion ?_))))))
     (apply rlr (vs := [.int .i64 (exT t now).tm, .int .i64 (exT t now).nx, Sl1, Ss1]) rfl rfl; exact Q0; rfl; rfl; (exact Nat.le_of_ble_eq_true rfl); rfl; rfl; rfl; rfl)
     refine rbd (cs := [.int _ _, .int _ _, .int _ _, .int _ _]) rfl rfl rfl rfl rfl ?_
     (apply rst (u := .agg [.int _ _, .int _ _, _, _]) rfl rfl rfl; exact Q0; exact Q13; rfl; rfl; rfl; exact Q7; (exact Nat.le_of_ble_eq_true rfl); rfl; rfl; rfl)
     (apply rst (u := .agg [.int _ _, .int _ _, .int _ _, .int _ _]) rfl rfl rfl; exact Q0; exact Q13; rfl; rfl; rfl; exact Q7; (exact Nat.le_of_ble_eq_true rfl); rfl; rfl; rfl)
     refine rNil (qSeq (wRet (qBlockR (qSeqR ?_))))
     have e : rqT t now r = (exT t now, bareA 6) := by
      unfold rqT; exact reqT_full (t := exT t now) (show ¬ snH r.cl t.sn by unfold snH; rw [hp]; intro hx; have hx1 := hx.1; have hx2 := hx.2; omega) (by show t.sn.length = 6; omega)
     rw [e]
     refine finS (tabIds Sl1 Ss1 W1 (exT t now).lk.length) (resL_cons (resV_row rfl (by exact Q0) rfl rfl (Nat.le_of_ble_eq_true rfl) rfl) (resL_cons (resV_row rfl (by exact Q0) rfl rfl (Nat.le_of_ble_eq_true rfl) rfl) resL_nil)) ?_
     refine SnapL.cons _ _ _ _ (snapTab (t := exT t now) ?_ ?_ (fun j hj => ?_) (fun a ha => ha)) (SnapL.cons _ _ _ _ (SnapC.agg (.cons _ _ _ _ (.int _ _) (.cons _ _ _ _ (.int _ _) (.cons _ _ _ _ (.int _ _) (.cons _ _ _ _ (.int _ _) .nil))))) SnapL.nil)
     ·exact T1.kl.mono (fun a ha => by have q := hP1 a (.inr (.inl ha)); (simp (disch := (first | omega | assumption)) only [↓appC, ↓updN, ↓updS, ↓app0]))
     ·exact T1.ks.mono (fun a ha => by have q := hP1 a (.inr (.inr (.inl ha))); (simp (disch := (first | omega | assumption)) only [↓appC, ↓updN, ↓updS, ↓app0]))
     ·exact (T1.kw j hj).mono (fun a ha => by have q := hP1 a (.inr (.inr (.inr ⟨j, hj, ha⟩))); (simp (disch := (first | omega | assumption)) only [↓appC, ↓updN, ↓updS, ↓app0]))
    ·refine rpk (e := false) rfl rfl rfl rfl rfl rfl (raB rfl rfl rfl rfl rfl (rNil (qSeq (wF rfl (wSkip (qBlock (qSeq (wSeq (wRegion ?_)))))))))
     (apply rlr (vs := [.int _ _, .int _ _, .int _ _, .int _ _, .str _]) rfl rfl; exact Q0; exact Q13; rfl; (exact Nat.le_of_ble_eq_true rfl); rfl; rfl; rfl; rfl)
     refine ropM (o106 (exT t now) r bq.bd hhd2 T1 hkd) rfl rfl rfl rfl rfl rfl ?_
     rintro _ g3 m2 ⟨rfl, S2⟩ hc2 hl2
     obtain ⟨Sl2, Ss2, W2, T2, x1, x2, x3⟩ := S2
     have hO1 : ∀ a, OwnT m1 Sl1 Ss1 W1 (exT t now).lk.length a → 4 ≤ a := fun a o => by have := TV.ownM a o; omega
     have hO : ∀ a, OwnT m1 Sl2 Ss2 W2 (doT (exT t now) r).1.lk.length a → 4 ≤ a := fun a o => (x1 a o).elim (fun e => hO1 a e) (fun e => by omega)
     have p1 : g3 (0 + 1) = some ⟨[[.int .i64 r.cl, .int .i64 r.st, .int .i64 r.kd, .int .i64 r.le, .str r.nm]], 5, 64⟩ := by rw [x2 (0 + 1) (by omega) (fun o => by have := hO1 _ o; omega)]; exact q1
     have p2 : g3 (0 + 1 + 1) = some ⟨[[.int .i64 0, .int .i64 0, .nsl, .nsl]], 4, 35⟩ := by rw [x2 (0 + 1 + 1) (by omega) (fun o => by have := hO1 _ o; omega)]; exact q2
     have p3 : g3 (0 + 1 + 1 + 1) = some ⟨[[.int .i64 0, .int .i64 0, .int .i64 0, .int .i64 0]], 4, 60⟩ := by rw [x2 (0 + 1 + 1 + 1) (by omega) (fun o => by have := hO1 _ o; omega)]; exact q3
     have kid2 : g3 m1 = some ⟨[[.int .i64 (doT (exT t now) r).1.tm, .int .i64 (doT (exT t now) r).1.nx, Sl2, Ss2]], 4, 35⟩ := T2.kid
     have ks2 : IsZ g3 Ss2 (t.sn.map Sn.V) 6 115 := by have := T2.ks; rwa [doT_sn] at this
     have kcl2 := T2.kl.cell
     have kcs2 := ks2.cell
     have hlen2 := lenZ ks2
     rw [List.length_map] at hlen2
     have kz2 := fun (h : 0 < t.sn.length) => kZ ks2 (by rw [List.length_map]; exact h)
     have fz2 := fun (h : 0 < t.sn.length) => T2.fs _ (fpZ ks2 (by rw [List.length_map]; exact h))
     have fo3 : idZ Ss2 < m2 ∧ idZ Ss2 ≠ m1 := by
      unfold idZ
      cases hx : fpV Ss2 with
      | none => exact ⟨by show 0 < m2; omega, by show 0 ≠ m1; omega⟩
      | some a => have := T2.fs a hx; exact ⟨this.1, this.2.1⟩
     have fo4 : ∀ a b x, x ∈ srcIds (slZ Ss2 a b) → x < m2 ∧ x ≠ m1 := fun a b x hx => by rw [idsZ _ _ _ x hx]; exact fo3
     have fo2 := fun (h : 0 < t.sn.length) => hO _ (.inr (.inr (.inl (fpZ ks2 (by rw [List.length_map]; exact h)))))
     refine ral rfl rfl rfl rfl rfl rfl ?_
     (apply rst (u := .agg [.int _ _, .int _ _, .int _ _, .int _ _]) rfl rfl rfl; exact Q0; exact Q13; rfl; rfl; rfl; exact Q7; (exact Nat.le_of_ble_eq_true rfl); rfl; rfl; rfl)
     refine rNil (qSeq (wSeq (wRegion (rfa (off := 0) (s := 1) (r := false) rfl rfl rfl (Nat.succ_ne_zero _) rfl rfl rfl ?_))))
     (apply rlc (v := .int _ _) rfl rfl; exact Q0; exact Q13; rfl; rfl; rfl; rfl; rfl)
     refine rfa (off := 1) (s := 1) (r := false) rfl rfl rfl (Nat.succ_ne_zero _) rfl rfl rfl ?_
     (apply rlc (v := .int _ _) rfl rfl; exact Q0; exact Q13; rfl; rfl; rfl; rfl; rfl)
     (apply rlr (vs := [.int _ _, .int _ _, .int _ _, .int _ _]) rfl rfl; exact Q0; exact Q13; rfl; (exact Nat.le_of_ble_eq_true rfl); rfl; rfl; rfl; rfl)
     refine rbd (cs := [.int _ _, .int _ _, .int _ _, .int _ _, .int _ _, .int _ _]) rfl rfl rfl rfl rfl (ral rfl rfl rfl rfl rfl rfl ?_)
     (apply rst (u := .agg [.int _ _, .int _ _, .int _ _, .int _ _, .int _ _, .int _ _]) rfl rfl rfl; exact Q0; exact Q13; rfl; rfl; rfl; exact Q7; (exact Nat.le_of_ble_eq_true rfl); rfl; rfl; rfl)
     refine rNil (qSeq (wSeq (wSeq (wRegion (rmB rfl rfl rfl rfl rfl (rNil (qSeq (wF rfl (wDraw [0, 0, 2, 0, 14, 31, 0, 64, 255, 0, 512, 0, 3584, 8191, 16383, 32767] rfl (by decide +kernel) ?_)))))))))
     refine dbs (es := []) rfl rfl rfl rfl (Nat.succ_ne_zero _) (Nat.le_of_ble_eq_true rfl) rfl rfl rfl rfl rfl (dfa (off := 3) (s := 1) (r := false) rfl rfl rfl (Nat.succ_ne_zero _) rfl rfl rfl ?_)
     (apply dlc (v := Ss2) rfl rfl; exact Q0; rfl; rfl; rfl; rfl; rfl; rfl)
     refine dmI rfl rfl rfl rfl rfl ?_
     (refine d0 (op_slice_Z (v := Ss2) rfl rfl rfl (ks2.mono (fun a ha => by have q := T2.fs a ha; have qa := q.1; have qb := q.2.1; have qc := hO a (.inr (.inr (.inl ha))); (simp (disch := (first | omega | assumption)) only [↓appC, ↓updN, ↓updS, ↓app0]))) rfl (by first | rfl | (rw [List.length_map]; rfl)) (by omega) (by first | omega | (rw [List.length_map]; omega)) (by first | omega | (rw [List.length_map]; omega))) rfl rfl rfl ?_)
     (apply dap (s' := 48)  rfl rfl; exact Q0; rfl; rfl; exact Q28; rfl; rfl; exact (Nat.succ_ne_zero _); exact Q18; exact Q24; exact Q10; exact Q10; rfl; rfl; rfl)
     (apply dlr (vs := [.int _ _, .int _ _, .int _ _, .int _ _, .int _ _, .int _ _]) rfl rfl; exact Q0; exact Q13; rfl; (exact Nat.le_of_ble_eq_true rfl); rfl; rfl; rfl; rfl)
     refine dbs (es := [[.int _ _, .int _ _, .int _ _, .int _ _, .int _ _, .int _ _]]) rfl rfl rfl rfl (Nat.succ_ne_zero _) (Nat.le_of_ble_eq_true rfl) rfl rfl rfl rfl rfl ?_
     (apply dap (s' := 48) (es := [[.int _ _, .int _ _, .int _ _, .int _ _, .int _ _, .int _ _]]) rfl rfl; exact Q0; rfl; rfl; exact Q28; rfl; rfl; exact (Nat.succ_ne_zero _); exact Q18; exact Q24; exact Q10; exact Q10; rfl; rfl; rfl)
     refine dfa (off := 3) (s := 1) (r := false) rfl rfl rfl (Nat.succ_ne_zero _) rfl rfl rfl ?_
     (apply dlc (v := Ss2) rfl rfl; exact Q0; rfl; rfl; rfl; rfl; rfl; rfl)
     refine dmI rfl rfl rfl rfl rfl ?_
     (refine d0 (op_slice_Z (v := Ss2) rfl rfl rfl (ks2.mono (fun a ha => by have q := T2.fs a ha; have qa := q.1; have qb := q.2.1; have qc := hO a (.inr (.inr (.inl ha))); (simp (disch := (first | omega | assumption)) only [↓appC, ↓updN, ↓updS, ↓app0]))) rfl (by first | rfl | (rw [List.length_map]; rfl)) (by omega) (by first | omega | (rw [List.length_map]; omega)) (by first | omega | (rw [List.length_map]; omega))) rfl rfl rfl ?_)
     (apply dap (s' := 48)  rfl rfl; exact Q0; rfl; rfl; exact Q28; rfl; rfl; exact (Nat.succ_ne_zero _); exact Q18; exact Q24; exact Q10; exact Q10; rfl; rfl; rfl)
     refine dfa (off := 3) (s := 1) (r := false) rfl rfl rfl (Nat.succ_ne_zero _) rfl rfl rfl ?_
     (apply dst (u := .view _ _ _) rfl rfl rfl; exact Q0; exact Q13; rfl; rfl; rfl; exact Q7; (exact Nat.le_of_ble_eq_true rfl); rfl; rfl; rfl)
     refine dNilR 16 [3, 0, 3, 1, 0, 1, 0, 3, 3, 1, 3, 1, 0, 1, 0, 3] [(0, 2), (0, 4), (0, 6), (5, 6), (0, 7), (2, 7), (4, 7), (5, 7), (0, 10), (5, 10), (7, 10), (8, 10), (0, 12), (5, 12), (7, 12), (8, 12)] rfl rfl (by decide +kernel) ?_ ?_
     ·(first | (focus (simp [ClearL, ids]; done)) | (focus (simp [ClearL, ids]; omega)) | (simp [ClearL, ids, Env.eval, upd]; (repeat' (first | omega | (intro hx; have := fo4 _ _ _ hx; omega) | apply And.intro))))
     refine qSeq (wSeq (wDraw [0, 0, 1, 7] rfl (by decide +kernel) ?_))
     (apply dlr (vs := [.int _ _, .int _ _, _, _]) rfl rfl; exact Q0; exact Q13; rfl; (exact Nat.le_of_ble_eq_true rfl); rfl; rfl; rfl; rfl)
     (apply dlr (vs := [.int _ _, .int _ _, .int _ _, .int _ _]) rfl rfl; exact Q0; exact Q13; rfl; (exact Nat.le_of_ble_eq_true rfl); rfl; rfl; rfl; rfl)
     (apply dst (u := .agg [.int _ _, .int _ _, _, _]) rfl rfl rfl; exact Q0; exact Q13; rfl; rfl; rfl; exact Q7; (exact Nat.le_of_ble_eq_true rfl); rfl; rfl; rfl)
     (apply dst (u := .agg [.int _ _, .int _ _, .int _ _, .int _ _]) rfl rfl rfl; exact Q0; exact Q13; rfl; rfl; rfl; exact Q7; (exact Nat.le_of_ble_eq_true rfl); rfl; rfl; rfl)
     refine dNilR 4 [3, 3, 1, 1] [(1, 2)] rfl rfl (by decide +kernel) ?_ ?_
     ·(first | (focus (simp [ClearL, ids]; done)) | (focus (simp [ClearL, ids]; omega)) | (simp [ClearL, ids, Env.eval, upd]; (repeat' (first | omega | (intro hx; have := fo4 _ _ _ hx; omega) | apply And.intro))))
     refine qSeq (wRet ?_)
     first
     |(have hthere := hsn ⟨by omega, by omega⟩
       obtain ⟨sb, esb, ksb⟩ := ks2.some (by rw [List.length_map]; omega)
       rw [List.length_map] at esb
       have eid : idZ Ss2 = sb := by rw [esb]; rfl
       have fsb : fpV Ss2 = some (idZ Ss2) := by rw [esb]; rfl
       have fzA := fz2 (by omega)
       have fzB := fo2 (by omega)
       have e : rqT t now r = (⟨(doT (exT t now) r).1.tm, (doT (exT t now) r).1.nx, (doT (exT t now) r).1.lk, t.sn.set i ⟨r.cl, r.st, (doT (exT t now) r).2⟩⟩, (doT (exT t now) r).2) := by
        unfold rqT; rw [reqT_next (t := exT t now) hthere (by show ¬ (t.sn.getD (snP r.cl t.sn) Sn0).st = r.st; rw [hp]; exact h6_10) (by show ¬ (t.sn.getD (snP r.cl t.sn) Sn0).st > r.st; rw [hp]; exact h8_10)]
        show (Tb.mk _ _ _ (t.sn.set (snP r.cl t.sn) _), _) = _; rw [hp]
       rw [e]
       refine finS (tabIds Sl2 Ss2 W2 (doT (exT t now) r).1.lk.length) (resL_cons (resV_row rfl (by exact Q0) rfl rfl (Nat.le_of_ble_eq_true rfl) rfl) (resL_cons (resV_row rfl (by exact Q0) rfl rfl (Nat.le_of_ble_eq_true rfl) rfl) resL_nil)) ?_
       refine SnapL.cons _ _ _ _ (snapTab (t := ⟨(doT (exT t now) r).1.tm, (doT (exT t now) r).1.nx, (doT (exT t now) r).1.lk, t.sn.set i ⟨r.cl, r.st, (doT (exT t now) r).2⟩⟩) ?_ ?_ (fun j hj => ?_) (fun a ha => ha)) (SnapL.cons _ _ _ _ (SnapC.agg (.cons _ _ _ _ (.int _ _) (.cons _ _ _ _ (.int _ _) (.cons _ _ _ _ (.int _ _) (.cons _ _ _ _ (.int _ _) .nil))))) SnapL.nil)
       focus (exact T2.kl.mono (fun a ha => by have q := hO a (.inr (.inl ha)); have q9 := T2.lt (a := a) (.inr (.inl ha)); have q8 : a ≠ idZ Ss2 := fun e => fzA.2.2 (by rw [← e]; exact ha); have q7 : a ≠ m1 := (T2.fl a ha).2; (simp (disch := (first | omega | assumption)) only [↓appC, ↓updN, ↓updS, ↓app0])))
       rotate_left
       focus (exact (T2.kw j hj).mono (fun a ha => by have q := hO a (.inr (.inr (.inr ⟨j, hj, ha⟩))); have q9 := T2.lt (a := a) (.inr (.inr (.inr ⟨j, hj, ha⟩))); have q8 : a ≠ idZ Ss2 := fun e => (T2.fw j a hj ha).2.2.2.1 (by rw [e]; exact fsb); have q7 : a ≠ m1 := (T2.fw j a hj ha).2.1; (simp (disch := (first | omega | assumption)) only [↓appC, ↓updN, ↓updS, ↓app0])))
       refine .inr ⟨idZ Ss2, by rw [List.length_map, List.length_set, eid]; exact esb, ?_⟩
       (simp (disch := (first | omega | assumption)) only [↓appC, ↓updN, ↓updS, ↓app0])
       exact congrArg (fun z => some (Blk.mk z 6 115)) (by rw [List.map_set]; rfl))
     |(have hnot := (show ¬ snH r.cl t.sn by unfold snH; rw [hp]; intro hx; have hx1 := hx.1; have hx2 := hx.2; omega)
       have e : rqT t now r = (⟨(doT (exT t now) r).1.tm, (doT (exT t now) r).1.nx, (doT (exT t now) r).1.lk, insL t.sn i ⟨r.cl, r.st, (doT (exT t now) r).2⟩⟩, (doT (exT t now) r).2) := by
        unfold rqT; rw [reqT_new (t := exT t now) hnot (by show ¬ t.sn.length = 6; omega)]
        show (Tb.mk _ _ _ (insL t.sn (snP r.cl t.sn) _), _) = _; rw [hp]
       rw [e]
       refine finS (tabIds Sl2 (.view (m2 + 1 + 1 + 1 + 1 + 1 + 1) 0 0) W2 (doT (exT t now) r).1.lk.length) (resL_cons (resV_row rfl (by exact Q0) rfl rfl (Nat.le_of_ble_eq_true rfl) rfl) (resL_cons (resV_row rfl (by exact Q0) rfl rfl (Nat.le_of_ble_eq_true rfl) rfl) resL_nil)) ?_
       refine SnapL.cons _ _ _ _ (snapTab (t := ⟨(doT (exT t now) r).1.tm, (doT (exT t now) r).1.nx, (doT (exT t now) r).1.lk, insL t.sn i ⟨r.cl, r.st, (doT (exT t now) r).2⟩⟩) ?_ ?_ (fun j hj => ?_) (fun a ha => ha)) (SnapL.cons _ _ _ _ (SnapC.agg (.cons _ _ _ _ (.int _ _) (.cons _ _ _ _ (.int _ _) (.cons _ _ _ _ (.int _ _) (.cons _ _ _ _ (.int _ _) .nil))))) SnapL.nil)
       focus (exact T2.kl.mono (fun a ha => by have q := hO a (.inr (.inl ha)); have q9 := T2.lt (a := a) (.inr (.inl ha)); have q7 : a ≠ m1 := (T2.fl a ha).2; (simp (disch := (first | omega | assumption)) only [↓appC, ↓updN, ↓updS, ↓app0])))
       rotate_left
       focus (exact (T2.kw j hj).mono (fun a ha => by have q := hO a (.inr (.inr (.inr ⟨j, hj, ha⟩))); have q9 := T2.lt (a := a) (.inr (.inr (.inr ⟨j, hj, ha⟩))); have q7 : a ≠ m1 := (T2.fw j a hj ha).2.1; (simp (disch := (first | omega | assumption)) only [↓appC, ↓updN, ↓updS, ↓app0])))
       refine .inr ⟨m2 + 1 + 1 + 1 + 1 + 1 + 1, congrArg (V.view _ 0) ((insLen2 (List.length_map ..) hI.1).trans (by rw [List.length_map, insL_len hI.1])), ?_⟩
       (simp (disch := (first | omega | assumption)) only [↓appC, ↓updN, ↓updS, ↓app0])
       exact congrArg (fun z => some (Blk.mk z 6 115)) ((insRows2 (by rw [List.length_map]; exact hI.1) rfl).trans (insL_map Sn.V t.sn i ⟨r.cl, r.st, (doT (exT t now) r).2⟩).symm))
 ·refine dmB rfl rfl rfl rfl rfl (dSkip rfl rfl rfl (dSkip rfl rfl rfl (dSkip rfl rfl rfl (dSkip rfl rfl rfl (dSkip rfl rfl rfl (dSkip rfl rfl rfl (dSkip rfl rfl rfl (dSkip rfl rfl rfl (dSkip rfl rfl rfl (dpk (e := false) rfl rfl rfl rfl rfl rfl (dNilR 16 [0, 0, 0, 0, 0, 0, 0, 0, 0, 0, 0, 0, 0, 1, 0, 0] [] rfl rfl (by decide +kernel) trivial ?_)))))))))))
  refine qSeq (wF rfl (wExit (qSeqX (qLoopX (qBlockX (qSeq (wSeq ?_)))))))
  have hp : snP r.cl t.sn = i := by
   first
   | exact snP_eq hI.1 hI.2 (fun _ => h3_14)
   | exact snP_eq hI.1 hI.2 (fun h => absurd h (by omega))
  refine wDraw [0, 0, 2, 6, 15, 31, 63, 127, 63, 511, 1023, 2047, 63, 4159, 16383, 32767, 65535] rfl (by decide +kernel) ?_
  refine dmI rfl rfl rfl rfl rfl (dfa (off := 3) (s := 1) (r := false) rfl rfl rfl (Nat.succ_ne_zero _) rfl rfl rfl ?_)
  (apply dlc (v := Ss1) rfl rfl; exact Q0; rfl; rfl; rfl; rfl; rfl; rfl)
  (refine dll rfl rfl hlen1 rfl rfl rfl ?_)
  refine dlt rfl rfl rfl rfl rfl rfl (fun h => absurd h (by omega)) ?_
  intro h5_4
  refine dmB rfl rfl rfl rfl rfl (dSkip rfl rfl rfl (dSkip rfl rfl rfl (dSkip rfl rfl rfl (dSkip rfl rfl rfl (dSkip rfl rfl rfl (dSkip rfl rfl rfl (dSkip rfl rfl rfl (dSkip rfl rfl rfl (dSkip rfl rfl rfl (dpk (e := false) rfl rfl rfl rfl rfl rfl (daB rfl rfl rfl rfl rfl (dNilR 17 [0, 0, 0, 0, 0, 0, 0, 0, 0, 0, 0, 0, 0, 0, 1, 0, 0] [] rfl rfl (by decide +kernel) trivial ?_))))))))))))
  refine qSeq (wSeq (wBlock (wSeq ?_)))
  have hcase : (i < t.sn.length ∧ (t.sn.getD i Sn0).cl = r.cl ∧ snH r.cl t.sn) ∨ (¬ snH r.cl t.sn) := by
   by_cases hs : snH r.cl t.sn
   ·left; have h1 := hs.1; have h2 := hs.2; rw [hp] at h1 h2; exact ⟨h1, h2, hs⟩
   ·exact .inr hs
  have hsn : (i < t.sn.length ∧ (t.sn.getD i Sn0).cl = r.cl) → snH r.cl t.sn := fun h => by unfold snH; rw [hp]; exact h
  refine wDraw [0, 1, 3, 7, 3, 31, 63, 127, 3, 259, 1023, 2047, 4095] rfl (by decide +kernel) ?_
  refine dmB rfl rfl rfl rfl rfl (dmB rfl rfl rfl rfl rfl (dSkip rfl rfl rfl (dSkip rfl rfl rfl (dSkip rfl rfl rfl (dSkip rfl rfl rfl (dSkip rfl rfl rfl (dSkip rfl rfl rfl (dSkip rfl rfl rfl (dSkip rfl rfl rfl (dSkip rfl rfl rfl (dpk (e := false) rfl rfl rfl rfl rfl rfl (daB rfl rfl rfl rfl rfl ?_))))))))))))
  refine dNilR 13 [0, 0, 0, 0, 0, 0, 0, 0, 0, 0, 0, 0, 0] [] rfl rfl (by decide +kernel) trivial ?_
  refine qSeq (wF rfl (wSeq (wDraw [0, 1, 3, 7, 3, 31, 63, 127, 3, 259, 1023, 2047, 4095] rfl (by decide +kernel) ?_)))
  refine dmB rfl rfl rfl rfl rfl (dmB rfl rfl rfl rfl rfl (dSkip rfl rfl rfl (dSkip rfl rfl rfl (dSkip rfl rfl rfl (dSkip rfl rfl rfl (dSkip rfl rfl rfl (dSkip rfl rfl rfl (dSkip rfl rfl rfl (dSkip rfl rfl rfl (dSkip rfl rfl rfl (dpk (e := false) rfl rfl rfl rfl rfl rfl (daB rfl rfl rfl rfl rfl ?_))))))))))))
  refine dNilR 13 [0, 0, 0, 0, 0, 0, 0, 0, 0, 0, 0, 0, 0] [] rfl rfl (by decide +kernel) trivial ?_
  refine qSeq (wF rfl (wSeq (wRegion (rmB rfl rfl rfl rfl rfl (rnot (c := false) rfl rfl rfl rfl rfl (rmB rfl rfl rfl rfl rfl (rfa (off := 3) (s := 1) (r := false) rfl rfl rfl (Nat.succ_ne_zero _) rfl rfl rfl ?_)))))))
  (apply rlc (v := Ss1) rfl rfl; exact Q0; rfl; rfl; rfl; rfl; rfl; rfl)
  (refine rll rfl rfl hlen1 rfl rfl rfl ?_)
  refine req rfl rfl rfl rfl rfl rfl ?_ ?_ <;> intro h10_6
  ·refine rpk (e := true) rfl rfl rfl rfl rfl rfl (raB rfl rfl rfl rfl rfl (rNil (qSeq (wT rfl (wSeq (wRegion ?_))))))
   (apply rlr (vs := [.int .i64 (exT t now).tm, .int .i64 (exT t now).nx, Sl1, Ss1]) rfl rfl; exact Q0; rfl; rfl; (exact Nat.le_of_ble_eq_true rfl); rfl; rfl; rfl; rfl)
   refine rbd (cs := [.int _ _, .int _ _, .int _ _, .int _ _]) rfl rfl rfl rfl rfl ?_
   (apply rst (u := .agg [.int _ _, .int _ _, _, _]) rfl rfl rfl; exact Q0; exact Q13; rfl; rfl; rfl; exact Q7; (exact Nat.le_of_ble_eq_true rfl); rfl; rfl; rfl)
   (apply rst (u := .agg [.int _ _, .int _ _, .int _ _, .int _ _]) rfl rfl rfl; exact Q0; exact Q13; rfl; rfl; rfl; exact Q7; (exact Nat.le_of_ble_eq_true rfl); rfl; rfl; rfl)
   refine rNil (qSeq (wRet (qBlockR (qSeqR ?_))))
   have e : rqT t now r = (exT t now, bareA 6) := by
    unfold rqT; exact reqT_full (t := exT t now) (show ¬ snH r.cl t.sn by unfold snH; rw [hp]; intro hx; have hx1 := hx.1; have hx2 := hx.2; omega) (by show t.sn.length = 6; omega)
   rw [e]
   refine finS (tabIds Sl1 Ss1 W1 (exT t now).lk.length) (resL_cons (resV_row rfl (by exact Q0) rfl rfl (Nat.le_of_ble_eq_true rfl) rfl) (resL_cons (resV_row rfl (by exact Q0) rfl rfl (Nat.le_of_ble_eq_true rfl) rfl) resL_nil)) ?_
   refine SnapL.cons _ _ _ _ (snapTab (t := exT t now) ?_ ?_ (fun j hj => ?_) (fun a ha => ha)) (SnapL.cons _ _ _ _ (SnapC.agg (.cons _ _ _ _ (.int _ _) (.cons _ _ _ _ (.int _ _) (.cons _ _ _ _ (.int _ _) (.cons _ _ _ _ (.int _ _) .nil))))) SnapL.nil)
   ·exact T1.kl.mono (fun a ha => by have q := hP1 a (.inr (.inl ha)); (simp (disch := (first | omega | assumption)) only [↓appC, ↓updN, ↓updS, ↓app0]))
   ·exact T1.ks.mono (fun a ha => by have q := hP1 a (.inr (.inr (.inl ha))); (simp (disch := (first | omega | assumption)) only [↓appC, ↓updN, ↓updS, ↓app0]))
   ·exact (T1.kw j hj).mono (fun a ha => by have q := hP1 a (.inr (.inr (.inr ⟨j, hj, ha⟩))); (simp (disch := (first | omega | assumption)) only [↓appC, ↓updN, ↓updS, ↓app0]))
  ·refine rpk (e := false) rfl rfl rfl rfl rfl rfl (raB rfl rfl rfl rfl rfl (rNil (qSeq (wF rfl (wSkip (qBlock (qSeq (wSeq (wRegion ?_)))))))))
   (apply rlr (vs := [.int _ _, .int _ _, .int _ _, .int _ _, .str _]) rfl rfl; exact Q0; exact Q13; rfl; (exact Nat.le_of_ble_eq_true rfl); rfl; rfl; rfl; rfl)
   refine ropM (o106 (exT t now) r bq.bd hhd2 T1 hkd) rfl rfl rfl rfl rfl rfl ?_
   rintro _ g3 m2 ⟨rfl, S2⟩ hc2 hl2
   obtain ⟨Sl2, Ss2, W2, T2, x1, x2, x3⟩ := S2
   have hO1 : ∀ a, OwnT m1 Sl1 Ss1 W1 (exT t now).lk.length a → 4 ≤ a := fun a o => by have := TV.ownM a o; omega
   have hO : ∀ a, OwnT m1 Sl2 Ss2 W2 (doT (exT t now) r).1.lk.length a → 4 ≤ a := fun a o => (x1 a o).elim (fun e => hO1 a e) (fun e => by omega)
   have p1 : g3 (0 + 1) = some ⟨[[.int .i64 r.cl, .int .i64 r.st, .int .i64 r.kd, .int .i64 r.le, .str r.nm]], 5, 64⟩ := by rw [x2 (0 + 1) (by omega) (fun o => by have := hO1 _ o; omega)]; exact q1
   have p2 : g3 (0 + 1 + 1) = some ⟨[[.int .i64 0, .int .i64 0, .nsl, .nsl]], 4, 35⟩ := by rw [x2 (0 + 1 + 1) (by omega) (fun o => by have := hO1 _ o; omega)]; exact q2
   have p3 : g3 (0 + 1 + 1 + 1) = some ⟨[[.int .i64 0, .int .i64 0, .int .i64 0, .int .i64 0]], 4, 60⟩ := by rw [x2 (0 + 1 + 1 + 1) (by omega) (fun o => by have := hO1 _ o; omega)]; exact q3
   have kid2 : g3 m1 = some ⟨[[.int .i64 (doT (exT t now) r).1.tm, .int .i64 (doT (exT t now) r).1.nx, Sl2, Ss2]], 4, 35⟩ := T2.kid
   have ks2 : IsZ g3 Ss2 (t.sn.map Sn.V) 6 115 := by have := T2.ks; rwa [doT_sn] at this
   have kcl2 := T2.kl.cell
   have kcs2 := ks2.cell
   have hlen2 := lenZ ks2
   rw [List.length_map] at hlen2
   have kz2 := fun (h : 0 < t.sn.length) => kZ ks2 (by rw [List.length_map]; exact h)
   have fz2 := fun (h : 0 < t.sn.length) => T2.fs _ (fpZ ks2 (by rw [List.length_map]; exact h))
   have fo3 : idZ Ss2 < m2 ∧ idZ Ss2 ≠ m1 := by
    unfold idZ
    cases hx : fpV Ss2 with
    | none => exact ⟨by show 0 < m2; omega, by show 0 ≠ m1; omega⟩
    | some a => have := T2.fs a hx; exact ⟨this.1, this.2.1⟩
   have fo4 : ∀ a b x, x ∈ srcIds (slZ Ss2 a b) → x < m2 ∧ x ≠ m1 := fun a b x hx => by rw [idsZ _ _ _ x hx]; exact fo3
   have fo2 := fun (h : 0 < t.sn.length) => hO _ (.inr (.inr (.inl (fpZ ks2 (by rw [List.length_map]; exact h)))))
   refine ral rfl rfl rfl rfl rfl rfl ?_
   (apply rst (u := .agg [.int _ _, .int _ _, .int _ _, .int _ _]) rfl rfl rfl; exact Q0; exact Q13; rfl; rfl; rfl; exact Q7; (exact Nat.le_of_ble_eq_true rfl); rfl; rfl; rfl)
   refine rNil (qSeq (wSeq (wRegion (rfa (off := 0) (s := 1) (r := false) rfl rfl rfl (Nat.succ_ne_zero _) rfl rfl rfl ?_))))
   (apply rlc (v := .int _ _) rfl rfl; exact Q0; exact Q13; rfl; rfl; rfl; rfl; rfl)
   refine rfa (off := 1) (s := 1) (r := false) rfl rfl rfl (Nat.succ_ne_zero _) rfl rfl rfl ?_
   (apply rlc (v := .int _ _) rfl rfl; exact Q0; exact Q13; rfl; rfl; rfl; rfl; rfl)
   (apply rlr (vs := [.int _ _, .int _ _, .int _ _, .int _ _]) rfl rfl; exact Q0; exact Q13; rfl; (exact Nat.le_of_ble_eq_true rfl); rfl; rfl; rfl; rfl)
   refine rbd (cs := [.int _ _, .int _ _, .int _ _, .int _ _, .int _ _, .int _ _]) rfl rfl rfl rfl rfl (ral rfl rfl rfl rfl rfl rfl ?_)
   (apply rst (u := .agg [.int _ _, .int _ _, .int _ _, .int _ _, .int _ _, .int _ _]) rfl rfl rfl; exact Q0; exact Q13; rfl; rfl; rfl; exact Q7; (exact Nat.le_of_ble_eq_true rfl); rfl; rfl; rfl)
   refine rNil (qSeq (wSeq (wSeq (wRegion (rmB rfl rfl rfl rfl rfl (rNil (qSeq (wF rfl (wDraw [0, 0, 2, 0, 14, 31, 0, 64, 255, 0, 512, 0, 3584, 8191, 16383, 32767] rfl (by decide +kernel) ?_)))))))))
   refine dbs (es := []) rfl rfl rfl rfl (Nat.succ_ne_zero _) (Nat.le_of_ble_eq_true rfl) rfl rfl rfl rfl rfl (dfa (off := 3) (s := 1) (r := false) rfl rfl rfl (Nat.succ_ne_zero _) rfl rfl rfl ?_)
   (apply dlc (v := Ss2) rfl rfl; exact Q0; rfl; rfl; rfl; rfl; rfl; rfl)
   refine dmI rfl rfl rfl rfl rfl ?_
   (refine d0 (op_slice_Z (v := Ss2) rfl rfl rfl (ks2.mono (fun a ha => by have q := T2.fs a ha; have qa := q.1; have qb := q.2.1; have qc := hO a (.inr (.inr (.inl ha))); (simp (disch := (first | omega | assumption)) only [↓appC, ↓updN, ↓updS, ↓app0]))) rfl (by first | rfl | (rw [List.length_map]; rfl)) (by omega) (by first | omega | (rw [List.length_map]; omega)) (by first | omega | (rw [List.length_map]; omega))) rfl rfl rfl ?_)
   (apply dap (s' := 48)  rfl rfl; exact Q0; rfl; rfl; exact Q28; rfl; rfl; exact (Nat.succ_ne_zero _); exact Q18; exact Q24; exact Q10; exact Q10; rfl; rfl; rfl)
   (apply dlr (vs := [.int _ _, .int _ _, .int _ _, .int _ _, .int _ _, .int _ _]) rfl rfl; exact Q0; exact Q13; rfl; (exact Nat.le_of_ble_eq_true rfl); rfl; rfl; rfl; rfl)
   refine dbs (es := [[.int _ _, .int _ _, .int _ _, .int _ _, .int _ _, .int _ _]]) rfl rfl rfl rfl (Nat.succ_ne_zero _) (Nat.le_of_ble_eq_true rfl) rfl rfl rfl rfl rfl ?_
   (apply dap (s' := 48) (es := [[.int _ _, .int _ _, .int _ _, .int _ _, .int _ _, .int _ _]]) rfl rfl; exact Q0; rfl; rfl; exact Q28; rfl; rfl; exact (Nat.succ_ne_zero _); exact Q18; exact Q24; exact Q10; exact Q10; rfl; rfl; rfl)
   refine dfa (off := 3) (s := 1) (r := false) rfl rfl rfl (Nat.succ_ne_zero _) rfl rfl rfl ?_
   (apply dlc (v := Ss2) rfl rfl; exact Q0; rfl; rfl; rfl; rfl; rfl; rfl)
   refine dmI rfl rfl rfl rfl rfl ?_
   (refine d0 (op_slice_Z (v := Ss2) rfl rfl rfl (ks2.mono (fun a ha => by have q := T2.fs a ha; have qa := q.1; have qb := q.2.1; have qc := hO a (.inr (.inr (.inl ha))); (simp (disch := (first | omega | assumption)) only [↓appC, ↓updN, ↓updS, ↓app0]))) rfl (by first | rfl | (rw [List.length_map]; rfl)) (by omega) (by first | omega | (rw [List.length_map]; omega)) (by first | omega | (rw [List.length_map]; omega))) rfl rfl rfl ?_)
   (apply dap (s' := 48)  rfl rfl; exact Q0; rfl; rfl; exact Q28; rfl; rfl; exact (Nat.succ_ne_zero _); exact Q18; exact Q24; exact Q10; exact Q10; rfl; rfl; rfl)
   refine dfa (off := 3) (s := 1) (r := false) rfl rfl rfl (Nat.succ_ne_zero _) rfl rfl rfl ?_
   (apply dst (u := .view _ _ _) rfl rfl rfl; exact Q0; exact Q13; rfl; rfl; rfl; exact Q7; (exact Nat.le_of_ble_eq_true rfl); rfl; rfl; rfl)
   refine dNilR 16 [3, 0, 3, 1, 0, 1, 0, 3, 3, 1, 3, 1, 0, 1, 0, 3] [(0, 2), (0, 4), (0, 6), (5, 6), (0, 7), (2, 7), (4, 7), (5, 7), (0, 10), (5, 10), (7, 10), (8, 10), (0, 12), (5, 12), (7, 12), (8, 12)] rfl rfl (by decide +kernel) ?_ ?_
   ·(first | (focus (simp [ClearL, ids]; done)) | (focus (simp [ClearL, ids]; omega)) | (simp [ClearL, ids, Env.eval, upd]; (repeat' (first | omega | (intro hx; have := fo4 _ _ _ hx; omega) | apply And.intro))))
   refine qSeq (wSeq (wDraw [0, 0, 1, 7] rfl (by decide +kernel) ?_))
   (apply dlr (vs := [.int _ _, .int _ _, _, _]) rfl rfl; exact Q0; exact Q13; rfl; (exact Nat.le_of_ble_eq_true rfl); rfl; rfl; rfl; rfl)
   (apply dlr (vs := [.int _ _, .int _ _, .int _ _, .int _ _]) rfl rfl; exact Q0; exact Q13; rfl; (exact Nat.le_of_ble_eq_true rfl); rfl; rfl; rfl; rfl)
   (apply dst (u := .agg [.int _ _, .int _ _, _, _]) rfl rfl rfl; exact Q0; exact Q13; rfl; rfl; rfl; exact Q7; (exact Nat.le_of_ble_eq_true rfl); rfl; rfl; rfl)
   (apply dst (u := .agg [.int _ _, .int _ _, .int _ _, .int _ _]) rfl rfl rfl; exact Q0; exact Q13; rfl; rfl; rfl; exact Q7; (exact Nat.le_of_ble_eq_true rfl); rfl; rfl; rfl)
   refine dNilR 4 [3, 3, 1, 1] [(1, 2)] rfl rfl (by decide +kernel) ?_ ?_
   ·(first | (focus (simp [ClearL, ids]; done)) | (focus (simp [ClearL, ids]; omega)) | (simp [ClearL, ids, Env.eval, upd]; (repeat' (first | omega | (intro hx; have := fo4 _ _ _ hx; omega) | apply And.intro))))
   refine qSeq (wRet ?_)
   first
   |(have hthere := hsn ⟨by omega, by omega⟩
     obtain ⟨sb, esb, ksb⟩ := ks2.some (by rw [List.length_map]; omega)
     rw [List.length_map] at esb
     have eid : idZ Ss2 = sb := by rw [esb]; rfl
     have fsb : fpV Ss2 = some (idZ Ss2) := by rw [esb]; rfl
     have fzA := fz2 (by omega)
     have fzB := fo2 (by omega)
     have e : rqT t now r = (⟨(doT (exT t now) r).1.tm, (doT (exT t now) r).1.nx, (doT (exT t now) r).1.lk, t.sn.set i ⟨r.cl, r.st, (doT (exT t now) r).2⟩⟩, (doT (exT t now) r).2) := by
      unfold rqT; rw [reqT_next (t := exT t now) hthere (by show ¬ (t.sn.getD (snP r.cl t.sn) Sn0).st = r.st; rw [hp]; exact h6_10) (by show ¬ (t.sn.getD (snP r.cl t.sn) Sn0).st > r.st; rw [hp]; exact h8_10)]
      show (Tb.mk _ _ _ (t.sn.set (snP r.cl t.sn) _), _) = _; rw [hp]
     rw [e]
     refine finS (tabIds Sl2 Ss2 W2 (doT (exT t now) r).1.lk.length) (resL_cons (resV_row rfl (by exact Q0) rfl rfl (Nat.le_of_ble_eq_true rfl) rfl) (resL_cons (resV_row rfl (by exact Q0) rfl rfl (Nat.le_of_ble_eq_true rfl) rfl) resL_nil)) ?_
     refine SnapL.cons _ _ _ _ (snapTab (t := ⟨(doT (exT t now) r).1.tm, (doT (exT t now) r).1.nx, (doT (exT t now) r).1.lk, t.sn.set i ⟨r.cl, r.st, (doT (exT t now) r).2⟩⟩) ?_ ?_ (fun j hj => ?_) (fun a ha => ha)) (SnapL.cons _ _ _ _ (SnapC.agg (.cons _ _ _ _ (.int _ _) (.cons _ _ _ _ (.int _ _) (.cons _ _ _ _ (.int _ _) (.cons _ _ _ _ (.int _ _) .nil))))) SnapL.nil)
     focus (exact T2.kl.mono (fun a ha => by have q := hO a (.inr (.inl ha)); have q9 := T2.lt (a := a) (.inr (.inl ha)); have q8 : a ≠ idZ Ss2 := fun e => fzA.2.2 (by rw [← e]; exact ha); have q7 : a ≠ m1 := (T2.fl a ha).2; (simp (disch := (first | omega | assumption)) only [↓appC, ↓updN, ↓updS, ↓app0])))
     rotate_left
     focus (exact (T2.kw j hj).mono (fun a ha => by have q := hO a (.inr (.inr (.inr ⟨j, hj, ha⟩))); have q9 := T2.lt (a := a) (.inr (.inr (.inr ⟨j, hj, ha⟩))); have q8 : a ≠ idZ Ss2 := fun e => (T2.fw j a hj ha).2.2.2.1 (by rw [e]; exact fsb); have q7 : a ≠ m1 := (T2.fw j a hj ha).2.1; (simp (disch := (first | omega | assumption)) only [↓appC, ↓updN, ↓updS, ↓app0])))
     refine .inr ⟨idZ Ss2, by rw [List.length_map, List.length_set, eid]; exact esb, ?_⟩
     (simp (disch := (first | omega | assumption)) only [↓appC, ↓updN, ↓updS, ↓app0])
     exact congrArg (fun z => some (Blk.mk z 6 115)) (by rw [List.map_set]; rfl))
   |(have hnot := (show ¬ snH r.cl t.sn by unfold snH; rw [hp]; intro hx; have hx1 := hx.1; have hx2 := hx.2; omega)
     have e : rqT t now r = (⟨(doT (exT t now) r).1.tm, (doT (exT t now) r).1.nx, (doT (exT t now) r).1.lk, insL t.sn i ⟨r.cl, r.st, (doT (exT t now) r).2⟩⟩, (doT (exT t now) r).2) := by
      unfold rqT; rw [reqT_new (t := exT t now) hnot (by show ¬ t.sn.length = 6; omega)]
      show (Tb.mk _ _ _ (insL t.sn (snP r.cl t.sn) _), _) = _; rw [hp]
     rw [e]
     refine finS (tabIds Sl2 (.view (m2 + 1 + 1 + 1 + 1 + 1 + 1) 0 0) W2 (doT (exT t now) r).1.lk.length) (resL_cons (resV_row rfl (by exact Q0) rfl rfl (Nat.le_of_ble_eq_true rfl) rfl) (resL_cons (resV_row rfl (by exact Q0) rfl rfl (Nat.le_of_ble_eq_true rfl) rfl) resL_nil)) ?_
     refine SnapL.cons _ _ _ _ (snapTab (t := ⟨(doT (exT t now) r).1.tm, (doT (exT t now) r).1.nx, (doT (exT t now) r).1.lk, insL t.sn i ⟨r.cl, r.st, (doT (exT t now) r).2⟩⟩) ?_ ?_ (fun j hj => ?_) (fun a ha => ha)) (SnapL.cons _ _ _ _ (SnapC.agg (.cons _ _ _ _ (.int _ _) (.cons _ _ _ _ (.int _ _) (.cons _ _ _ _ (.int _ _) (.cons _ _ _ _ (.int _ _) .nil))))) SnapL.nil)
     focus (exact T2.kl.mono (fun a ha => by have q := hO a (.inr (.inl ha)); have q9 := T2.lt (a := a) (.inr (.inl ha)); have q7 : a ≠ m1 := (T2.fl a ha).2; (simp (disch := (first | omega | assumption)) only [↓appC, ↓updN, ↓updS, ↓app0])))
     rotate_left
     focus (exact (T2.kw j hj).mono (fun a ha => by have q := hO a (.inr (.inr (.inr ⟨j, hj, ha⟩))); have q9 := T2.lt (a := a) (.inr (.inr (.inr ⟨j, hj, ha⟩))); have q7 : a ≠ m1 := (T2.fw j a hj ha).2.1; (simp (disch := (first | omega | assumption)) only [↓appC, ↓updN, ↓updS, ↓app0])))
     refine .inr ⟨m2 + 1 + 1 + 1 + 1 + 1 + 1, congrArg (V.view _ 0) ((insLen2 (List.length_map ..) hI.1).trans (by rw [List.length_map, insL_len hI.1])), ?_⟩
     (simp (disch := (first | omega | assumption)) only [↓appC, ↓updN, ↓updS, ↓app0])
     exact congrArg (fun z => some (Blk.mk z 6 115)) ((insRows2 (by rw [List.length_map]; exact hI.1) rfl).trans (insL_map Sn.V t.sn i ⟨r.cl, r.st, (doT (exT t now) r).2⟩).symm))
open Go.V
set_option linter.unusedVariables false
set_option linter.unusedSimpArgs false
set_option maxRecDepth 20000
set_option maxHeartbeats 4000000
theorem exF_nm (tm nx : Int) (l : Lk) : (exF tm nx l).nm = l.nm := by
 unfold exF
 split
 ·cases l.ws <;> rfl
 ·rfl
theorem exF_hd {tm nx : Int} {l : Lk} (h : -1 ≤ l.hd) (hw : ∀ i, i < l.ws.length → 0 ≤ (l.ws.getD i (0, 0)).1) : -1 ≤ (exF tm nx l).hd := by
 unfold exF
 split
 ·cases hl : l.ws with
  | nil => exact Int.le_refl _
  | cons a r => have := hw 0 (by rw [hl]; simp); rw [hl] at this; simp at this; show -1 ≤ a.1; omega
 ·exact h
theorem exF_tail (tm nx : Int) (l : Lk) : (exF tm nx l).ws = l.ws ∨ ∃ a, l.ws = a :: (exF tm nx l).ws := by
 unfold exF
 split
 ·cases l.ws with
  | nil => exact .inl rfl
  | cons a r => exact .inr ⟨a, rfl⟩
 ·exact .inl rfl
theorem nxL_bd (tm nx : Int) : ∀ L : List Lk, nx ≤ nxL tm nx L ∧ nxL tm nx L ≤ nx + L.length
 | [] => by unfold nxL; simp
 | l :: r => by
  unfold nxL
  have h1 := nxL_bd tm (exN tm nx l) r
  have h2 := exN_bd2 (tm := tm) (nx := nx) (l := l)
  simp only [List.length_cons]
  omega
theorem Bq.of {t : Tb} {now : Int} {r : Rq} (ht : t.OK) (hr : r.OK) (hn : 0 ≤ now ∧ now ≤ 1000000000) (hx : t.nx ≤ 999900) : Bq t now r := by
 obtain ⟨h1, h2, h3, h4, h5, h6⟩ := ht
 have hL : (exT t now).lk.length = t.lk.length := exL_len _ _ _
 have hg : ∀ i, i < t.lk.length → (exT t now).lk.getD i Lk0 = exF (max t.tm now) (nxL (max t.tm now) t.nx (t.lk.take i)) (t.lk.getD i Lk0) := fun i hi => exL_get hi
 have hws : ∀ i, i < t.lk.length → ∀ k, k < (t.lk.getD i Lk0).ws.length → 1 ≤ ((t.lk.getD i Lk0).ws.getD k (0, 0)).2 ∧ ((t.lk.getD i Lk0).ws.getD k (0, 0)).2 ≤ 1000 := fun i hi k hk => ((h5 i hi).1.2.2.2.2.2.2 k hk).2.2.1
 refine ⟨⟨fun i h0 h => ?_, by omega, fun i hi => ?_, fun j hj i hi => ?_, ?_, ?_, hr.1, hr.2.2.2.1⟩, ?_, by omega, by omega, hws, fun j hj => (h6 j hj).1.1, fun i h0 hi => (h6 i hi).2 h0, h4⟩
 ·rw [hL] at h
  have := (h5 i h).2 h0
  unfold lnm
  rw [hg i h, hg (i - 1) (by omega), exF_nm, exF_nm]
  exact this
 ·rw [hL] at hi
  rw [hg i hi]
  have := (h5 i hi).1.2.2.2.2.1
  rcases exF_tail (max t.tm now) (nxL (max t.tm now) t.nx (t.lk.take i)) (t.lk.getD i Lk0) with e | ⟨a, e⟩
  ·rw [e]; exact this
  ·rw [e, List.length_cons] at this; omega
 ·rw [hL] at hj
  rw [hg j hj] at hi ⊢
  rcases exF_tail (max t.tm now) (nxL (max t.tm now) t.nx (t.lk.take j)) (t.lk.getD j Lk0) with e | ⟨a, e⟩
  ·rw [e] at hi ⊢; exact hws j hj i hi
  ·have := hws j hj (i + 1) (by rw [e, List.length_cons]; omega)
   rw [e] at this
   simpa using this
 ·show 0 ≤ max t.tm now ∧ max t.tm now ≤ 1000000000; omega
 ·have := nxL_bd (max t.tm now) t.nx t.lk
  show 0 ≤ nxL (max t.tm now) t.nx t.lk ∧ nxL (max t.tm now) t.nx t.lk ≤ 999990
  omega
 ·omega
theorem OK.hd {t : Tb} (ht : t.OK) : ∀ i, i < t.lk.length → -1 ≤ (t.lk.getD i Lk0).hd := fun i hi => (ht.2.2.2.2.1 i hi).1.2.2.1.1
theorem OK.w4 {t : Tb} (ht : t.OK) : ∀ i, i < t.lk.length → (t.lk.getD i Lk0).ws.length ≤ 100 := fun i hi => by have := (ht.2.2.2.2.1 i hi).1.2.2.2.2.1; omega
theorem OK.hdE {t : Tb} (ht : t.OK) (now : Int) : ∀ i, i < (exT t now).lk.length → -1 ≤ ((exT t now).lk.getD i Lk0).hd := fun i hi => by
 have hL : (exT t now).lk.length = t.lk.length := exL_len _ _ _
 rw [hL] at hi
 rw [show (exT t now).lk.getD i Lk0 = exF (max t.tm now) (nxL (max t.tm now) t.nx (t.lk.take i)) (t.lk.getD i Lk0) from exL_get hi]
 exact exF_hd (OK.hd ht i hi) (fun k hk => ((ht.2.2.2.2.1 i hi).1.2.2.2.2.2.2 k hk).1.1)
def An0 : An := ⟨0, 0, 0, 0⟩
noncomputable def apA (t : Tb) (now : Int) (r : Rq) : Tb × An × Int := if ¬ (t.OK ∧ r.OK) then (T0, An0, 1) else if ¬ (0 ≤ now ∧ now ≤ 1000000000) then (T0, An0, 4) else if t.nx > 999000 then (t, An0, 13) else ((rqT t now r).1, (rqT t now r).2, 0)
theorem apA_bad {t : Tb} {now : Int} {r : Rq} (h : ¬ (t.OK ∧ r.OK)) : apA t now r = (T0, An0, 1) := if_pos h
theorem apA_rng {t : Tb} {now : Int} {r : Rq} (h : t.OK ∧ r.OK) (h1 : ¬ (0 ≤ now ∧ now ≤ 1000000000)) : apA t now r = (T0, An0, 4) := by unfold apA; rw [if_neg (fun e => e h), if_pos h1]
theorem apA_used {t : Tb} {now : Int} {r : Rq} (h : t.OK ∧ r.OK) (h1 : 0 ≤ now ∧ now ≤ 1000000000) (h2 : t.nx > 999000) : apA t now r = (t, An0, 13) := by unfold apA; rw [if_neg (fun e => e h), if_neg (fun e => e h1), if_pos h2]
theorem apA_go {t : Tb} {now : Int} {r : Rq} (h : t.OK ∧ r.OK) (h1 : 0 ≤ now ∧ now ≤ 1000000000) (h2 : ¬ t.nx > 999000) : apA t now r = ((rqT t now r).1, (rqT t now r).2, 0) := by unfold apA; rw [if_neg (fun e => e h), if_neg (fun e => e h1), if_neg h2]
theorem TabV.zero (h : Heap) (n0 n : Nat) : TabV T0 .nsl .nsl (fun _ => .nsl) h n0 n :=
 ⟨.inl ⟨rfl, rfl⟩, .inl ⟨rfl, rfl⟩, fun i hi => absurd hi (Nat.not_lt_zero _), fun a h => (by cases h), fun a h => (by cases h), fun i a hi _ => absurd hi (Nat.not_lt_zero _)⟩
theorem o49s (t : Tb) (fr : Bool) (hL : t.lk.length ≤ 1000) (hW : ∀ i, i < t.lk.length → (t.lk.getD i Lk0).ws.length ≤ 1048576) (hS : t.sn.length ≤ 1048576) {h : Heap} {n : Nat} :
  OpenM En 49 [.agg [.int .i64 t.tm, .int .i64 t.nx, .sl fr true (t.lk.map (Lk.T true)), .sl fr true (t.sn.map Sn.T)]] h n (fun v g m => ∃ Sl Ss W, v = .agg [.int .i64 t.tm, .int .i64 t.nx, Sl, Ss] ∧ TabV t Sl Ss W g n m ∧ (∀ a, a < n → g a = h a) ∧ n ≤ m) := by
 by_cases hne : 0 < t.lk.length
 ·refine V.Open.toM (o49 t fr hL hne hW hS) ⟨_, _, (fun i => .view (n + 5 + 5 * i + 2) 0 (t.lk.getD i Lk0).ws.length), rfl, ⟨.inr ⟨_, by rw [rwW_len], ?_⟩, .inr ⟨n + 3, by rw [List.length_map], ?_⟩, fun i hi => .inr ⟨_, [], by rw [List.length_map]; rfl, ?_⟩, fun a ha => ?_, fun a ha => ?_, fun i a hi ha => ?_⟩, fun a ha => ?_, by omega⟩
  ·refine Eq.trans (b := some ⟨lkR (fun i => n + 5 + 5 * i + 2) t.lk, 5, 29⟩) ?_ rfl
   rw [app_append, famO (fun i hi => by (try dsimp only); omega)] <;> (simp (disch := (first | omega | assumption)) only [↓appC, ↓updN, ↓updS, ↓app0])
  ·rw [app_append, famO (fun i hi => by (try dsimp only); omega)] <;> (simp (disch := (first | omega | assumption)) only [↓appC, ↓updN, ↓updS, ↓app0])
  ·exact famA (w := fun i => n + 5 + 5 * i + 2) (fun a b _ _ e => by (try dsimp only at e); omega) hi
  ·cases ha; omega
  ·cases ha; exact ⟨by omega, fun e => by have e := Option.some.inj e; omega⟩
  ·have ha := Option.some.inj ha
   (try dsimp only at ha)
   exact ⟨by omega, fun e => by cases e; omega, fun e => by cases e; omega, fun j hj hn e => by have e := Option.some.inj e; (try dsimp only at e); omega⟩
  ·rw [app_append, famO (fun i hi => by (try dsimp only); omega)] <;> (simp (disch := (first | omega | assumption)) only [↓appC, ↓updN, ↓updS, ↓app0])
 ·have hl : t.lk = [] := List.eq_nil_of_length_eq_zero (by omega)
  obtain ⟨tm, nx, lk, sn⟩ := t
  dsimp only at hl; subst hl
  refine V.Open.toM (o49n tm nx sn fr hS) ⟨.nsl, _, (fun _ => .nsl), rfl, ⟨.inl ⟨rfl, rfl⟩, .inr ⟨n + 3, by rw [List.length_map], ?_⟩, fun i hi => absurd hi (Nat.not_lt_zero _), fun a ha => (by cases ha), fun a ha => ?_, fun i a hi _ => absurd hi (Nat.not_lt_zero _)⟩, fun a ha => ?_, by omega⟩
  ·(simp (disch := (first | omega | assumption)) only [↓appC, ↓updN, ↓updS, ↓app0])
  ·cases ha; exact ⟨by omega, nofun⟩
  ·(simp (disch := (first | omega | assumption)) only [↓appC, ↓updN, ↓updS, ↓app0])
open Go.V
set_option linter.unusedVariables false
set_option linter.unusedSimpArgs false
set_option maxRecDepth 20000
set_option maxHeartbeats 4000000
theorem o27 (t : Tb) (now : Int) (r : Rq) {h : Heap} {n : Nat} : OpenM En 27 [.agg [.int .i64 t.tm, .int .i64 t.nx, .sl false true (t.lk.map (Lk.T true)), .sl false true (t.sn.map Sn.T)], .int .i64 now, .agg [.int .i64 r.cl, .int .i64 r.st, .int .i64 r.kd, .int .i64 r.le, .str r.nm]] h n (fun v g m => ∃ Sl Ss W, v = .tup [.agg [.int .i64 (apA t now r).1.tm, .int .i64 (apA t now r).1.nx, Sl, Ss], .agg (apA t now r).2.1.V, .int .i64 (apA t now r).2.2] ∧ TabV (apA t now r).1 Sl Ss W g n m ∧ (∀ a, a < n → g a = h a) ∧ n ≤ m) := by
 refine OpenM.of_wp Try.func27 rfl (Nat.le_of_ble_eq_true rfl) ?_
 refine wSeq (wRegion ?_)
 (refine rbx (u := .agg [.int .i64 t.tm, .int .i64 t.nx, .sl false true (t.lk.map (Lk.T true)), .sl false true (t.sn.map Sn.T)]) rfl rfl rfl rfl rfl rfl rfl ?_)
 refine rbx (u := .agg [.int _ _, .int _ _, .int _ _, .int _ _, .str _]) rfl rfl rfl rfl rfl rfl rfl (ral rfl rfl rfl rfl rfl rfl (ral rfl rfl rfl rfl rfl rfl (raI rfl rfl rfl rfl rfl (rNil (qSeq (wSeq (wBlock (wSeq (wRegion ?_)))))))))
 (apply rlr (vs := [.int _ _, .int _ _, _, _]) rfl rfl; exact Q0; exact Q13; rfl; (exact Nat.le_of_ble_eq_true rfl); rfl; rfl; rfl; rfl)
 refine rclP (p23 t true true true) rfl rfl rfl rfl rfl rfl ?_ ?_ <;> intro h1_1
 ·refine rnot (c := true) rfl rfl rfl rfl rfl (rmB rfl rfl rfl rfl rfl ?_)
  (apply rlr (vs := [.int _ _, .int _ _, .int _ _, .int _ _, .str _]) rfl rfl; exact Q0; exact Q13; rfl; (exact Nat.le_of_ble_eq_true rfl); rfl; rfl; rfl; rfl)
  refine rclP (p26 r) rfl rfl rfl rfl rfl rfl ?_ ?_ <;> intro h1_5
  ·refine rnot (c := true) rfl rfl rfl rfl rfl (rpk (e := false) rfl rfl rfl rfl rfl rfl (raB rfl rfl rfl rfl rfl (rNil (qSeq (wF rfl (wSeq (wRegion (rmI rfl rfl rfl rfl rfl ?_))))))))
   refine rclP (s59 now) rfl rfl rfl rfl rfl rfl ?_ ?_ <;> intro h3_1
   ·refine rnot (c := true) rfl rfl rfl rfl rfl (raB rfl rfl rfl rfl rfl (rNil (qSeq (wF rfl (wSeq (wRegion (rfa (off := 1) (s := 1) (r := false) rfl rfl rfl (Nat.succ_ne_zero _) rfl rfl rfl ?_)))))))
    (apply rlc (v := .int _ _) rfl rfl; exact Q0; exact Q13; rfl; rfl; rfl; rfl; rfl)
    refine rgt rfl rfl rfl rfl rfl rfl ?_ ?_ <;> intro h5_2
    ·refine raB rfl rfl rfl rfl rfl (rNil (qSeq (wT rfl (wSeq (wRegion ?_)))))
     (apply rlr (vs := [.int _ _, .int _ _, _, _]) rfl rfl; exact Q0; exact Q13; rfl; (exact Nat.le_of_ble_eq_true rfl); rfl; rfl; rfl; rfl)
     refine ropM (o49s t false (by have := h1_1.2.2.1; omega) (fun i hi => by have := OKw h1_1 hi; omega) (by have := h1_1.2.2.2.1; omega)) rfl rfl rfl rfl rfl rfl ?_
     rintro _ g1 m1 ⟨Sl1, Ss1, W1, rfl, TV, fr1, le1⟩ hc1 hl1
     have kcl1 := TV.kl.cell
     have kcs1 := TV.ks.cell
     have q1 : g1 (n + 1) = some ⟨[[.int .i64 r.cl, .int .i64 r.st, .int .i64 r.kd, .int .i64 r.le, .str r.nm]], 5, 64⟩ := by rw [fr1 (n + 1) (by omega)]; (simp (disch := (first | omega | assumption)) only [↓appC, ↓updN, ↓updS, ↓app0]); rfl
     have q2 : g1 (n + 1 + 1) = some ⟨[[.int .i64 0, .int .i64 0, .nsl, .nsl]], 4, 35⟩ := by rw [fr1 (n + 1 + 1) (by omega)]; (simp (disch := (first | omega | assumption)) only [↓appC, ↓updN, ↓updS, ↓app0]); rfl
     have q3 : g1 (n + 1 + 1 + 1) = some ⟨[[.int .i64 0, .int .i64 0, .int .i64 0, .int .i64 0]], 4, 60⟩ := by rw [fr1 (n + 1 + 1 + 1) (by omega)]; (simp (disch := (first | omega | assumption)) only [↓appC, ↓updN, ↓updS, ↓app0]); rfl
     have qk : ∀ a, a < n → g1 a = h a := fun a ha => by rw [fr1 a (by omega)]; (simp (disch := (first | omega | assumption)) only [↓appC, ↓updN, ↓updS, ↓app0])
     refine rbd (cs := [.int _ _, .int _ _, .int _ _, .int _ _]) rfl rfl rfl rfl rfl ?_
     (apply rst (u := .agg [.int _ _, .int _ _, _, _]) rfl rfl rfl; exact Q0; exact Q13; rfl; rfl; rfl; exact Q21; (exact Nat.le_of_ble_eq_true rfl); rfl; rfl; rfl)
     (apply rst (u := .agg [.int _ _, .int _ _, .int _ _, .int _ _]) rfl rfl rfl; exact Q0; exact Q13; rfl; rfl; rfl; exact Q21; (exact Nat.le_of_ble_eq_true rfl); rfl; rfl; rfl)
     refine raI rfl rfl rfl rfl rfl (rNil (qSeq (wRet (qBlockR (qSeqR (finM (resL_cons (resV_row rfl (by exact Q0) rfl rfl (Nat.le_of_ble_eq_true rfl) rfl) (resL_cons (resV_row rfl (by exact Q0) rfl rfl (Nat.le_of_ble_eq_true rfl) rfl) (resL_cons rfl resL_nil))) (by (repeat first | exact Ch.refl _ | exact rc | refine Ch.trans ?_ hc3 | refine Ch.trans ?_ hc1 | refine Ch.upd ?_ | refine Ch.app ?_)) ?_))))))
     rw [apA_used ⟨h1_1, h1_5⟩ h3_1 h5_2]
     exact ⟨Sl1, Ss1, W1, rfl, (TV.keep (Nat.le_refl _) (fun a h1 h2 => by (simp (disch := (first | omega | assumption)) only [↓appC, ↓updN, ↓updS, ↓app0]))).low (by omega), fun a ha => (by (simp (disch := (first | omega | assumption)) only [↓appC, ↓updN, ↓updS, ↓app0]); exact qk a ha), by omega⟩
    ·refine raB rfl rfl rfl rfl rfl (rNil (qSeq (wF rfl (wSkip (qBlock (qSeq (wSeq (wRegion ?_))))))))
     (apply rlr (vs := [.int _ _, .int _ _, _, _]) rfl rfl; exact Q0; exact Q13; rfl; (exact Nat.le_of_ble_eq_true rfl); rfl; rfl; rfl; rfl)
     refine ropM (o49s t false (by have := h1_1.2.2.1; omega) (fun i hi => by have := OKw h1_1 hi; omega) (by have := h1_1.2.2.2.1; omega)) rfl rfl rfl rfl rfl rfl ?_
     rintro _ g1 m1 ⟨Sl1, Ss1, W1, rfl, TV, fr1, le1⟩ hc1 hl1
     have kcl1 := TV.kl.cell
     have kcs1 := TV.ks.cell
     have q1 : g1 (n + 1) = some ⟨[[.int .i64 r.cl, .int .i64 r.st, .int .i64 r.kd, .int .i64 r.le, .str r.nm]], 5, 64⟩ := by rw [fr1 (n + 1) (by omega)]; (simp (disch := (first | omega | assumption)) only [↓appC, ↓updN, ↓updS, ↓app0]); rfl
     have q2 : g1 (n + 1 + 1) = some ⟨[[.int .i64 0, .int .i64 0, .nsl, .nsl]], 4, 35⟩ := by rw [fr1 (n + 1 + 1) (by omega)]; (simp (disch := (first | omega | assumption)) only [↓appC, ↓updN, ↓updS, ↓app0]); rfl
     have q3 : g1 (n + 1 + 1 + 1) = some ⟨[[.int .i64 0, .int .i64 0, .int .i64 0, .int .i64 0]], 4, 60⟩ := by rw [fr1 (n + 1 + 1 + 1) (by omega)]; (simp (disch := (first | omega | assumption)) only [↓appC, ↓updN, ↓updS, ↓app0]); rfl
     have qk : ∀ a, a < n → g1 a = h a := fun a ha => by rw [fr1 a (by omega)]; (simp (disch := (first | omega | assumption)) only [↓appC, ↓updN, ↓updS, ↓app0])
     refine ral rfl rfl rfl rfl rfl rfl ?_
     (apply rst (u := .agg [.int _ _, .int _ _, _, _]) rfl rfl rfl; exact Q0; exact Q13; rfl; rfl; rfl; exact Q21; (exact Nat.le_of_ble_eq_true rfl); rfl; rfl; rfl)
     refine rNil (qSeq (wSeq ?_))
     refine wpG fun g2 hg2 => ?_
     have bq := Bq.of h1_1 h1_5 h3_1 (by omega)
     have T1 : TabM t m1 Sl1 Ss1 W1 g2 (m1 + 1) := TV.toM ⟨by omega, .inl (Nat.le_refl _)⟩ (by omega) (by rw [hg2]; (simp (disch := (first | omega | assumption)) only [↓appC, ↓updN, ↓updS, ↓app0]); rfl) (fun a h1 h2 => by rw [hg2]; (simp (disch := (first | omega | assumption)) only [↓appC, ↓updN, ↓updS, ↓app0]))
     have r1 : g2 (n + 1) = some ⟨[[.int .i64 r.cl, .int .i64 r.st, .int .i64 r.kd, .int .i64 r.le, .str r.nm]], 5, 64⟩ := by rw [hg2]; (simp (disch := (first | omega | assumption)) only [↓appC, ↓updN, ↓updS, ↓app0]); exact q1
     have r2 : g2 (n + 1 + 1) = some ⟨[[.int .i64 0, .int .i64 0, .nsl, .nsl]], 4, 35⟩ := by rw [hg2]; (simp (disch := (first | omega | assumption)) only [↓appC, ↓updN, ↓updS, ↓app0]); exact q2
     have r3 : g2 (n + 1 + 1 + 1) = some ⟨[[.int .i64 0, .int .i64 0, .int .i64 0, .int .i64 0]], 4, 60⟩ := by rw [hg2]; (simp (disch := (first | omega | assumption)) only [↓appC, ↓updN, ↓updS, ↓app0]); exact q3
     have rk : ∀ a, a < n → g2 a = h a := fun a ha => by rw [hg2]; (simp (disch := (first | omega | assumption)) only [↓appC, ↓updN, ↓updS, ↓app0]); exact qk a ha
     have rc : Ch h g2 := by rw [hg2]; (repeat first | exact Ch.refl _ | refine Ch.trans ?_ hc1 | refine Ch.upd ?_ | refine Ch.app ?_)
     refine wRegion (rmI rfl rfl rfl rfl rfl ?_)
     (apply rlr (vs := [.int _ _, .int _ _, .int _ _, .int _ _, .str _]) rfl rfl; exact Q0; exact Q13; rfl; (exact Nat.le_of_ble_eq_true rfl); rfl; rfl; rfl; rfl)
     refine ropM (o71 t now r bq T1) rfl rfl rfl rfl rfl rfl ?_
     rintro _ g3 m3 ⟨rfl, S3⟩ hc3 hl3
     obtain ⟨Sl2, Ss2, W2, T2, x1, x2, x3⟩ := S3
     have hO1 : ∀ a, OwnT m1 Sl1 Ss1 W1 t.lk.length a → n + 1 + 1 + 1 + 1 ≤ a := fun a o => by have := TV.ownM a o; omega
     have hO : ∀ a, OwnT m1 Sl2 Ss2 W2 (rqT t now r).1.lk.length a → n + 1 + 1 + 1 + 1 ≤ a := fun a o => (x1 a o).elim (fun e => hO1 a e) (fun e => by omega)
     have kcl2 := T2.kl.cell
     have kcs2 := T2.ks.cell
     have kid2 : g3 m1 = some ⟨[[.int .i64 (rqT t now r).1.tm, .int .i64 (rqT t now r).1.nx, Sl2, Ss2]], 4, 35⟩ := T2.kid
     have p2 : g3 (n + 1 + 1) = some ⟨[[.int .i64 0, .int .i64 0, .nsl, .nsl]], 4, 35⟩ := by rw [x2 (n + 1 + 1) (by omega) (fun o => by have := hO1 _ o; omega)]; exact r2
     have p3 : g3 (n + 1 + 1 + 1) = some ⟨[[.int .i64 0, .int .i64 0, .int .i64 0, .int .i64 0]], 4, 60⟩ := by rw [x2 (n + 1 + 1 + 1) (by omega) (fun o => by have := hO1 _ o; omega)]; exact r3
     have pk : ∀ a, a < n → g3 a = h a := fun a ha => by rw [x2 a (by omega) (fun o => by have := hO1 _ o; omega)]; exact rk a ha
     refine ral rfl rfl rfl rfl rfl rfl ?_
     (apply rst (u := .agg [.int _ _, .int _ _, .int _ _, .int _ _]) rfl rfl rfl; exact Q0; exact Q13; rfl; rfl; rfl; exact Q21; (exact Nat.le_of_ble_eq_true rfl); rfl; rfl; rfl)
     refine rNil (qSeq (wSeq (wDraw [0, 0, 1, 7, 15] rfl (by decide +kernel) ?_)))
     (apply dlr (vs := [.int _ _, .int _ _, _, _]) rfl rfl; exact Q0; exact Q13; rfl; (exact Nat.le_of_ble_eq_true rfl); rfl; rfl; rfl; rfl)
     (apply dlr (vs := [.int _ _, .int _ _, .int _ _, .int _ _]) rfl rfl; exact Q0; exact Q13; rfl; (exact Nat.le_of_ble_eq_true rfl); rfl; rfl; rfl; rfl)
     (apply dst (u := .agg [.int _ _, .int _ _, _, _]) rfl rfl rfl; exact Q0; exact Q13; rfl; rfl; rfl; exact Q21; (exact Nat.le_of_ble_eq_true rfl); rfl; rfl; rfl)
     (apply dst (u := .agg [.int _ _, .int _ _, .int _ _, .int _ _]) rfl rfl rfl; exact Q0; exact Q13; rfl; rfl; rfl; exact Q21; (exact Nat.le_of_ble_eq_true rfl); rfl; rfl; rfl)
     refine daI rfl rfl rfl rfl rfl (dNilR 5 [0, 3, 3, 1, 1] [(1, 2)] rfl rfl (by decide +kernel) ?_ ?_)
     ·(simp [ClearL, ids]; try omega)
     refine qSeq (wRet (finM (resL_cons (resV_row rfl (by exact Q0) rfl rfl (Nat.le_of_ble_eq_true rfl) rfl) (resL_cons (resV_row rfl (by exact Q0) rfl rfl (Nat.le_of_ble_eq_true rfl) rfl) (resL_cons rfl resL_nil))) (by (repeat first | exact Ch.refl _ | exact rc | refine Ch.trans ?_ hc3 | refine Ch.trans ?_ hc1 | refine Ch.upd ?_ | refine Ch.app ?_)) ?_))
     rw [apA_go ⟨h1_1, h1_5⟩ h3_1 h5_2]
     exact ⟨Sl2, Ss2, W2, rfl, ((T2.toV (n0 := n + 1 + 1 + 1 + 1) hO).keep (m := m3 + 1) (by omega) (fun a h1 h2 => by (simp (disch := (first | omega | assumption)) only [↓appC, ↓updN, ↓updS, ↓app0]))).low (by omega), fun a ha => (by (simp (disch := (first | omega | assumption)) only [↓appC, ↓updN, ↓updS, ↓app0]); exact pk a ha), by omega⟩
   ·refine rnot (c := false) rfl rfl rfl rfl rfl (raB rfl rfl rfl rfl rfl (rNil (qSeq (wT rfl (wSeq (wRegion (rbd (cs := [.int _ _, .int _ _, _, _]) rfl rfl rfl rfl rfl (rbd (cs := [.int _ _, .int _ _, .int _ _, .int _ _]) rfl rfl rfl rfl rfl ?_))))))))
    (apply rst (u := .agg [.int _ _, .int _ _, _, _]) rfl rfl rfl; exact Q0; exact Q13; rfl; rfl; rfl; exact Q21; (exact Nat.le_of_ble_eq_true rfl); rfl; rfl; rfl)
    (apply rst (u := .agg [.int _ _, .int _ _, .int _ _, .int _ _]) rfl rfl rfl; exact Q0; exact Q13; rfl; rfl; rfl; exact Q21; (exact Nat.le_of_ble_eq_true rfl); rfl; rfl; rfl)
    refine raI rfl rfl rfl rfl rfl (rNil (qSeq (wRet (qBlockR (qSeqR (finM (resL_cons (resV_row rfl (by exact Q0) rfl rfl (Nat.le_of_ble_eq_true rfl) rfl) (resL_cons (resV_row rfl (by exact Q0) rfl rfl (Nat.le_of_ble_eq_true rfl) rfl) (resL_cons rfl resL_nil))) (by (repeat first | exact Ch.refl _ | exact rc | refine Ch.trans ?_ hc3 | refine Ch.trans ?_ hc1 | refine Ch.upd ?_ | refine Ch.app ?_)) ?_))))))
    rw [apA_rng ⟨h1_1, h1_5⟩ h3_1]
    exact ⟨.nsl, .nsl, _, rfl, TabV.zero _ _ _, fun a ha => (by (simp (disch := (first | omega | assumption)) only [↓appC, ↓updN, ↓updS, ↓app0])), by omega⟩
  ·refine rnot (c := false) rfl rfl rfl rfl rfl (rpk (e := true) rfl rfl rfl rfl rfl rfl (raB rfl rfl rfl rfl rfl (rNil (qSeq (wT rfl (wSeq (wRegion (rbd (cs := [.int _ _, .int _ _, _, _]) rfl rfl rfl rfl rfl (rbd (cs := [.int _ _, .int _ _, .int _ _, .int _ _]) rfl rfl rfl rfl rfl ?_)))))))))
   (apply rst (u := .agg [.int _ _, .int _ _, _, _]) rfl rfl rfl; exact Q0; exact Q13; rfl; rfl; rfl; exact Q21; (exact Nat.le_of_ble_eq_true rfl); rfl; rfl; rfl)
   (apply rst (u := .agg [.int _ _, .int _ _, .int _ _, .int _ _]) rfl rfl rfl; exact Q0; exact Q13; rfl; rfl; rfl; exact Q21; (exact Nat.le_of_ble_eq_true rfl); rfl; rfl; rfl)
   refine raI rfl rfl rfl rfl rfl (rNil (qSeq (wRet (qBlockR (qSeqR ?_)))))
   have hb : ¬ (t.OK ∧ r.OK) := (fun e => by have e1 := e.1; have e2 := e.2; first | exact h1_1 e1 | exact h1_5 e2)
   refine finM (resL_cons (resV_row rfl (by exact Q0) rfl rfl (Nat.le_of_ble_eq_true rfl) rfl) (resL_cons (resV_row rfl (by exact Q0) rfl rfl (Nat.le_of_ble_eq_true rfl) rfl) (resL_cons rfl resL_nil))) (by (repeat first | exact Ch.refl _ | exact rc | refine Ch.trans ?_ hc3 | refine Ch.trans ?_ hc1 | refine Ch.upd ?_ | refine Ch.app ?_)) ?_
   rw [apA_bad hb]
   exact ⟨.nsl, .nsl, _, rfl, TabV.zero _ _ _, fun a ha => (by (simp (disch := (first | omega | assumption)) only [↓appC, ↓updN, ↓updS, ↓app0])), by omega⟩
 ·refine rnot (c := false) rfl rfl rfl rfl rfl (rmB rfl rfl rfl rfl rfl (rSkip rfl rfl rfl (rSkip rfl rfl rfl (rSkip rfl rfl rfl (rpk (e := true) rfl rfl rfl rfl rfl rfl (raB rfl rfl rfl rfl rfl (rNil (qSeq (wT rfl (wSeq (wRegion (rbd (cs := [.int _ _, .int _ _, _, _]) rfl rfl rfl rfl rfl ?_))))))))))))
  refine rbd (cs := [.int _ _, .int _ _, .int _ _, .int _ _]) rfl rfl rfl rfl rfl ?_
  (apply rst (u := .agg [.int _ _, .int _ _, _, _]) rfl rfl rfl; exact Q0; exact Q13; rfl; rfl; rfl; exact Q21; (exact Nat.le_of_ble_eq_true rfl); rfl; rfl; rfl)
  (apply rst (u := .agg [.int _ _, .int _ _, .int _ _, .int _ _]) rfl rfl rfl; exact Q0; exact Q13; rfl; rfl; rfl; exact Q21; (exact Nat.le_of_ble_eq_true rfl); rfl; rfl; rfl)
  refine raI rfl rfl rfl rfl rfl (rNil (qSeq (wRet (qBlockR (qSeqR ?_)))))
  have hb : ¬ (t.OK ∧ r.OK) := (fun e => by have e1 := e.1; have e2 := e.2; first | exact h1_1 e1 | exact h1_5 e2)
  refine finM (resL_cons (resV_row rfl (by exact Q0) rfl rfl (Nat.le_of_ble_eq_true rfl) rfl) (resL_cons (resV_row rfl (by exact Q0) rfl rfl (Nat.le_of_ble_eq_true rfl) rfl) (resL_cons rfl resL_nil))) (by (repeat first | exact Ch.refl _ | exact rc | refine Ch.trans ?_ hc3 | refine Ch.trans ?_ hc1 | refine Ch.upd ?_ | refine Ch.app ?_)) ?_
  rw [apA_bad hb]
  exact ⟨.nsl, .nsl, _, rfl, TabV.zero _ _ _, fun a ha => (by (simp (disch := (first | omega | assumption)) only [↓appC, ↓updN, ↓updS, ↓app0])), by omega⟩
open Go.V
set_option linter.unusedVariables false
set_option linter.unusedSimpArgs false
set_option maxRecDepth 20000
set_option maxHeartbeats 4000000
theorem acqL_bd {t : Tb} {k : Nat} {r : Rq} {B : Nat} (hB : 1 ≤ B) (h : ∀ i, i < t.lk.length → (t.lk.getD i Lk0).ws.length ≤ B) : (acqL t k r).1.lk.length ≤ t.lk.length + 1 ∧ ∀ i, i < (acqL t k r).1.lk.length → ((acqL t k r).1.lk.getD i Lk0).ws.length ≤ B + 1 := by
 have key : ∀ l : Lk, l.ws.length ≤ B + 1 → (t.lk.set k l).length ≤ t.lk.length + 1 ∧ ∀ i, i < (t.lk.set k l).length → ((t.lk.set k l).getD i Lk0).ws.length ≤ B + 1 := fun l hl => by
  refine ⟨by rw [List.length_set]; omega, fun i hi => ?_⟩
  rw [List.length_set] at hi
  by_cases hk : k < t.lk.length
  ·rw [getD_set hk]
   split
   ·exact hl
   ·have := h i hi; omega
  ·rw [List.set_eq_of_length_le (by omega)]; have := h i hi; omega
 have same : t.lk.length ≤ t.lk.length + 1 ∧ ∀ i, i < t.lk.length → (t.lk.getD i Lk0).ws.length ≤ B + 1 := ⟨by omega, fun i hi => by have := h i hi; omega⟩
 have hk0 : (t.lk.getD k Lk0).ws.length ≤ B := by
  by_cases hk : k < t.lk.length
  ·exact h k hk
  ·rw [List.getD_eq_getElem?_getD, List.getElem?_eq_none (by omega)]; simp [Lk0]
 unfold acqL
 split
 ·exact same
 ·split
  ·exact key _ (by dsimp only; omega)
  ·split
   ·exact same
   ·exact key _ (by dsimp only; rw [List.length_append, List.length_singleton]; omega)
theorem doT_bd {t : Tb} {r : Rq} {B : Nat} (hB : 1 ≤ B) (h : ∀ i, i < t.lk.length → (t.lk.getD i Lk0).ws.length ≤ B) : (doT t r).1.lk.length ≤ t.lk.length + 1 ∧ ∀ i, i < (doT t r).1.lk.length → ((doT t r).1.lk.getD i Lk0).ws.length ≤ B + 1 := by
 have key : ∀ (k : Nat) (l : Lk), l.ws.length ≤ B + 1 → (t.lk.set k l).length ≤ t.lk.length + 1 ∧ ∀ i, i < (t.lk.set k l).length → ((t.lk.set k l).getD i Lk0).ws.length ≤ B + 1 := fun k l hl => by
  refine ⟨by rw [List.length_set]; omega, fun i hi => ?_⟩
  rw [List.length_set] at hi
  by_cases hk : k < t.lk.length
  ·rw [getD_set hk]
   split
   ·exact hl
   ·have := h i hi; omega
  ·rw [List.set_eq_of_length_le (by omega)]; have := h i hi; omega
 have same : t.lk.length ≤ t.lk.length + 1 ∧ ∀ i, i < t.lk.length → (t.lk.getD i Lk0).ws.length ≤ B + 1 := ⟨by omega, fun i hi => by have := h i hi; omega⟩
 have hk0 : ∀ k, (t.lk.getD k Lk0).ws.length ≤ B := fun k => by
  by_cases hk : k < t.lk.length
  ·exact h k hk
  ·rw [List.getD_eq_getElem?_getD, List.getElem?_eq_none (by omega)]; simp [Lk0]
 unfold doT
 split
 ·unfold acqT
  split
  ·exact acqL_bd hB h
  ·split
   ·exact same
   ·dsimp only
    have hp := pos_le r.nm t.lk
    refine ⟨by rw [insL_len hp]; omega, fun i hi => ?_⟩
    rw [insL_len hp] at hi
    rw [insL_get hp]
    split
    ·have := hk0 i; omega
    ·split
     ·simp
     ·have := hk0 (i - 1); omega
 ·split
  ·unfold doL
   have h0 := hk0 (pos r.nm t.lk)
   split
   ·refine key _ _ ?_
    dsimp only
    rw [List.length_append, List.length_take, List.length_drop]; omega
   ·split
    ·exact same
    ·split
     ·exact same
     ·split
      ·exact key _ _ (by dsimp only; omega)
      ·refine key _ _ ?_
       unfold frL
       cases hw : (t.lk.getD (pos r.nm t.lk) Lk0).ws with
       | nil => simp
       | cons a q => rw [hw] at h0; simp at h0 ⊢; omega
  ·exact same
theorem rqT_bd {t : Tb} {now : Int} {r : Rq} (bq : Bq t now r) : (rqT t now r).1.lk.length ≤ 5 ∧ (∀ i, i < (rqT t now r).1.lk.length → ((rqT t now r).1.lk.getD i Lk0).ws.length ≤ 5) ∧ (rqT t now r).1.sn.length ≤ 7 := by
 have hd := doT_bd (t := exT t now) (r := r) (B := 4) (by omega) bq.bd.w4
 have hl := bq.bd.l4
 have h6 : (exT t now).sn.length ≤ 6 := bq.s6
 have same : (exT t now).lk.length ≤ 5 ∧ (∀ i, i < (exT t now).lk.length → ((exT t now).lk.getD i Lk0).ws.length ≤ 5) ∧ (exT t now).sn.length ≤ 7 := ⟨by omega, fun i hi => by have := bq.bd.w4 i hi; omega, by omega⟩
 unfold rqT reqT
 split
 ·exact same
 ·split
  ·exact same
  ·split
   ·exact same
   ·refine ⟨?_, hd.2, ?_⟩
    ·dsimp only; omega
    ·dsimp only
     split
     ·rw [List.length_set]; omega
     ·rw [insL_len (snP_le _ _)]; omega
theorem s44g (t : Tb) (b n1 n2 : Bool) (hL : t.lk.length ≤ 1000) (hW : ∀ i, i < t.lk.length → (t.lk.getD i Lk0).ws.length ≤ 1048576) (hS : t.sn.length ≤ 1048576) : Pure En 44 [.agg (t.T b n1 n2)] [.agg (t.T true true true)] := by
 have hl : (t.lk.map (Lk.T b)).length = t.lk.length := List.length_map ..
 refine Pure.of_wp Try.func44 rfl (Nat.le_of_ble_eq_true rfl) ?_
 refine wSeq (wRegion (rbx (u := .agg [.int _ _, .int _ _, _, _]) rfl rfl rfl rfl rfl rfl rfl (ral rfl rfl rfl rfl rfl rfl (rNil (qSeq (wSeq (wDraw [0, 1, 0, 4, 0, 0, 0, 64, 224, 511, 0, 2047] rfl (by decide +kernel) ?_)))))))
 refine dfa (off := 0) (s := 1) (r := false) rfl rfl rfl (Nat.succ_ne_zero _) rfl rfl rfl ?_
 (apply dlc (v := .int _ _) rfl rfl; exact Q3; rfl; rfl; rfl; rfl; rfl; rfl)
 refine dfa (off := 1) (s := 1) (r := false) rfl rfl rfl (Nat.succ_ne_zero _) rfl rfl rfl ?_
 (apply dlc (v := .int _ _) rfl rfl; exact Q3; rfl; rfl; rfl; rfl; rfl; rfl)
 refine dbs (es := []) rfl rfl rfl rfl (Nat.succ_ne_zero _) (Nat.le_of_ble_eq_true rfl) rfl rfl rfl rfl rfl (dbs (es := []) rfl rfl rfl rfl (Nat.succ_ne_zero _) (Nat.le_of_ble_eq_true rfl) rfl rfl rfl rfl rfl (dfa (off := 3) (s := 1) (r := false) rfl rfl rfl (Nat.succ_ne_zero _) rfl rfl rfl ?_))
 (apply dlc (v := .sl _ _ _) rfl rfl; exact Q3; rfl; rfl; rfl; rfl; rfl; rfl)
 (apply dap (s' := 48) rfl rfl; exact Q3; rfl; rfl; rfl; rfl; rfl; exact (Nat.succ_ne_zero _); rfl; exact (lenSnF false t.sn); (simp only [List.length_map]; omega); (simp only [List.length_map]; omega); rfl; rfl; rfl)
 refine dbd (cs := [.int _ _, .int _ _, _, _]) rfl rfl rfl rfl rfl (dal rfl rfl rfl rfl rfl rfl ?_)
 (apply dst (u := .agg [.int _ _, .int _ _, _, _]) rfl rfl rfl; exact Q3; rfl; rfl; rfl; rfl; rfl; (exact Nat.le_of_ble_eq_true rfl); rfl; rfl; rfl)
 refine dNilR 12 [3, 3, 0, 3, 1, 0, 3, 3, 1, 0, 1, 0] [(1, 4), (3, 4), (1, 5), (3, 5), (4, 5), (4, 7), (5, 7), (1, 8), (3, 8), (4, 8), (1, 10), (3, 10), (4, 10), (5, 10), (7, 10), (8, 10)] rfl rfl (by decide +kernel) ?_ ?_
 ·(simp [ClearL, ids, srcIds, Env.eval, upd, retV, A.toV, T.toV]; try omega)
 refine qSeq (wSeq (wSeq (wRegion (raI rfl rfl rfl rfl rfl (rNil (qSeq (wBlock (wLoop ?_))))))))
 refine loopGo (fun (a : Nat × Nat) => [.unk, .ptr 0 0 0, .ptr 1 0 0, .ptr 5 0 0, .int .i64 a.1]) (fun (a : Nat × Nat) => app ([(0, some ⟨[[.int .i64 t.tm, .int .i64 t.nx, .sl false n1 (t.lk.map (Lk.T b)), .sl false n2 (t.sn.map Sn.T)]], 4, 35⟩), (1, some ⟨[[.int .i64 0, .int .i64 0, .nsl, .nsl]], 4, 35⟩), (4, some ⟨t.sn.map Sn.V, 6, 115⟩), (5, some ⟨[[.int .i64 t.tm, .int .i64 t.nx, .view a.2 0 a.1, .view 4 0 t.sn.length]], 4, 35⟩), (a.2, some ⟨(List.range a.1).map (rwV (fun i => 6 + 5 * i + 2) t.lk), 5, 29⟩)] ++ famL (fun i => 6 + 5 * i + 2) (wsF t.lk) a.1) (fun _ => none)) (fun (a : Nat × Nat) => 6 + 5 * a.1) (fun (a : Nat × Nat) => a.1 ≤ t.lk.length ∧ (a.2 = 2 ∧ a.1 = 0 ∨ a.2 = 5 * a.1 + 5 ∧ 0 < a.1)) (fun (a : Nat × Nat) => t.lk.length - a.1) (0, 2) ?_ ?_ ?_ ?_ ?_
 ·exact ⟨Nat.zero_le _, .inl ⟨rfl, rfl⟩⟩
 ·(repeat first | exact LE.nil _ | refine LE.unk _ _ ?_ | refine LE.eq _ _ _ rfl ?_)
 ·dsimp only
  refine lessFam (m := 0) (fun _ _ => rfl) (fun j hj => ?_) (fun j hj => ?_) (fun j hl _ _ => absurd hl (Nat.not_lt_zero _))
  ·exact absurd hj (Nat.not_lt_zero _)
  ·simp only [List.map_cons, List.map_nil, List.mem_cons, List.not_mem_nil, or_false] at hj
   refine Eq.trans ?_ (famAO (fun k _ => by rcases hj with e | e | e | e | e <;> rw [e] <;> (try dsimp only) <;> omega)).symm
   rcases hj with e | e | e | e | e <;> rw [e] <;> (simp (disch := (first | omega | (intro _ _; dsimp only; omega))) only [↓appC, ↓updN, ↓updS, ↓app0, ↓famAO]) <;> first | rfl | (first | exact congrArg (fun z => some (Blk.mk z 6 115)) (rowsSnV false t.sn) | exact congrArg (fun z => some (Blk.mk [[.int .i64 t.tm, .int .i64 t.nx, .view 2 0 0, .view 4 0 z]] 4 35)) (by simp))
 ·exact Nat.le_refl _
 intro ⟨i, lid⟩ hI ih
 dsimp only at hI ⊢
 have hI2 := hI.2
 refine lStep (wSeq (wSeq (wRegion (rmI rfl rfl rfl rfl rfl (rfa (off := 2) (s := 1) (r := false) rfl rfl rfl (Nat.succ_ne_zero _) rfl rfl rfl ?_)))))
 (apply rlc (v := .sl _ _ _) rfl rfl; exact Q3; rfl; rfl; rfl; rfl; rfl; rfl)
 refine rll rfl rfl rfl rfl rfl rfl ?_
 refine rlt rfl rfl rfl rfl rfl rfl ?_ ?_ <;> intro h3_4
 ·refine rNil (qSeq (wT rfl (wSkip (qSeq (wSeq (wBlock (wSeq (wRegion (rfa (off := 2) (s := 1) (r := false) rfl rfl rfl (Nat.succ_ne_zero _) rfl rfl rfl ?_)))))))))
  (apply rlc (v := .sl _ _ _) rfl rfl; exact Q3; rfl; rfl; rfl; rfl; rfl; rfl)
  refine rmI rfl rfl rfl rfl rfl ?_
  (apply rixl rfl rfl rfl rfl; exact Q5; (first | rfl | assumption | (exact getMap (Lk.T b) Lk0 (k := i) (by omega))); rfl; rfl; rfl; rfl)
  refine rlir (vs := [.str _, .int _ _, .int _ _, .int _ _, _]) rfl rfl rfl (Nat.le_of_ble_eq_true rfl) rfl rfl rfl rfl (ral rfl rfl rfl rfl rfl rfl ?_)
  (apply rst (u := .agg [.str _, .int _ _, .int _ _, .int _ _, _]) rfl rfl rfl; exact Q3; rfl; rfl; rfl; rfl; rfl; (exact Nat.le_of_ble_eq_true rfl); rfl; rfl; rfl)
  refine rNil (qSeq (wSeq (wRegion (rbs (es := []) rfl rfl rfl rfl (Nat.succ_ne_zero _) (Nat.le_of_ble_eq_true rfl) rfl rfl rfl rfl rfl (rfa (off := 4) (s := 1) (r := false) rfl rfl rfl (Nat.succ_ne_zero _) rfl rfl rfl ?_)))))
  (apply rlc (v := .sl _ _ _) rfl rfl; exact Q3; rfl; rfl; rfl; rfl; rfl; rfl)
  (apply rap (s' := 16) rfl rfl; exact Q3; rfl; rfl; rfl; rfl; rfl; exact (Nat.succ_ne_zero _); rfl; exact (lenWtF false (t.lk.getD i Lk0).ws); (simp only [List.length_map]; have := hW i (by omega); omega); (simp only [List.length_map]; have := hW i (by omega); omega); rfl; rfl; rfl)
  refine rfa (off := 4) (s := 1) (r := false) rfl rfl rfl (Nat.succ_ne_zero _) rfl rfl rfl ?_
  (apply rst (u := .view _ _ _) rfl rfl rfl; exact Q3; rfl; rfl; rfl; rfl; rfl; (exact Nat.le_of_ble_eq_true rfl); rfl; rfl; rfl)
  refine rNil (qSeq (wRegion (rfa (off := 2) (s := 1) (r := false) rfl rfl rfl (Nat.succ_ne_zero _) rfl rfl rfl ?_)))
  (apply rlc (v := .view _ _ _) rfl rfl; exact Q3; rfl; rfl; rfl; rfl; rfl; rfl)
  (apply rlr (vs := [.str _, .int _ _, .int _ _, .int _ _, _]) rfl rfl; exact Q3; rfl; rfl; (exact Nat.le_of_ble_eq_true rfl); rfl; rfl; rfl; rfl)
  refine rbs (es := [[.str _, .int _ _, .int _ _, .int _ _, _]]) rfl rfl rfl rfl (Nat.succ_ne_zero _) (Nat.le_of_ble_eq_true rfl) rfl rfl rfl rfl rfl ?_
  (apply rap (s' := 64) (es := [[.str _, .int _ _, .int _ _, .int _ _, _]]) rfl rfl; exact Q3; rfl; rfl; (first | rfl | (focus (simp; done)) | (focus (simp; omega))); rfl; rfl; exact (Nat.succ_ne_zero _); (first | rfl | (apply srcView rfl; exact Q3; (first | exact Nat.le_refl _ | omega); rfl)); exact Q22; exact Q23; exact Q23; rfl; rfl; rfl)
  refine rfa (off := 2) (s := 1) (r := false) rfl rfl rfl (Nat.succ_ne_zero _) rfl rfl rfl ?_
  (apply rst (u := .view _ _ _) rfl rfl rfl; exact Q3; rfl; rfl; rfl; rfl; rfl; (exact Nat.le_of_ble_eq_true rfl); rfl; rfl; rfl)
  refine rNil (qBlock (qSeq (wRegion (rmI rfl rfl rfl rfl rfl (raddF rfl rfl rfl ?_ ?_ rfl rfl rfl ?_)))))
  ·exact Q5
  ·exact Q5
  refine raI rfl rfl rfl rfl rfl (rNil (qLoop ?_))
  refine wlH (ih (i + 1, 6 + 5 * i + 1 + 1 + 1 + 1) ⟨by dsimp only; omega, .inr ⟨by dsimp only; omega, by dsimp only; omega⟩⟩ (by dsimp only; omega)) (by (repeat first | exact LE.nil _ | refine LE.unk _ _ ?_ | refine LE.eq _ _ _ rfl ?_)) (by
   dsimp only
   refine lessFam (m := 0) (fun _ _ => rfl) (fun j hj => ?_) (fun j hj => ?_) (fun j hl _ _ => absurd hl (Nat.not_lt_zero _))
   ·refine Eq.trans ?_ (famA (w := (fun i => 6 + 5 * i + 2)) (fun a b _ _ e => by (try dsimp only at e); omega) hj).symm
    (try dsimp only)
    by_cases e : j = i
    ·rw [e]
     (simp (disch := omega) only [↓appC, ↓updN, ↓updS, ↓app0]) <;> exact congrArg (fun z => some (Blk.mk z 2 123)) (rowsWtV false _)
    ·simp (disch := omega) only [↓appC, ↓updN, ↓updS, ↓app0]
     exact famA (w := (fun i => 6 + 5 * i + 2)) (fun a b _ _ e => by (try dsimp only at e); omega) (show j < i by omega)
   ·simp only [List.map_cons, List.map_nil, List.mem_cons, List.not_mem_nil, or_false] at hj
    refine Eq.trans ?_ (famAO (fun k _ => by rcases hj with e | e | e | e | e <;> rw [e] <;> (try dsimp only) <;> omega)).symm
    rcases hj with e | e | e | e | e <;> rw [e] <;> (simp (disch := (first | omega | (intro _ _; dsimp only; omega))) only [↓appC, ↓updN, ↓updS, ↓app0, ↓famAO]) <;> first | rfl | (first | (refine congrArg (fun z => some (Blk.mk z 5 29)) ?_; simp only [List.length_map, Nat.zero_add]; exact rgSnoc2 (fun i => 6 + 5 * i + 2) t.lk i) | exact congrArg (fun z => some (Blk.mk [[.int .i64 t.tm, .int .i64 t.nx, .view z 0 (i + 1), .view 4 0 t.sn.length]] 4 35)) (by omega))) (by dsimp only; omega)
 ·refine rNil (qSeq (wF rfl (wExit (qSeqX (qLoopX (qBlockX (qSeq (wSeq (wRegion ?_)))))))))
  (apply rlr (vs := [.int _ _, .int _ _, _, _]) rfl rfl; exact Q3; rfl; rfl; (exact Nat.le_of_ble_eq_true rfl); rfl; rfl; rfl; rfl)
  (apply rst (u := .agg [.int _ _, .int _ _, _, _]) rfl rfl rfl; exact Q3; rfl; rfl; rfl; rfl; rfl; (exact Nat.le_of_ble_eq_true rfl); rfl; rfl; rfl)
  refine rNil (qSeq (wRet ?_))
  obtain rfl : i = t.lk.length := by omega
  refine finS ([lid, 4] ++ (List.range t.lk.length).map (fun i => 6 + 5 * i + 2)) (resL_cons (resV_row rfl (by exact Q3) rfl rfl (Nat.le_of_ble_eq_true rfl) rfl) resL_nil) ?_
  refine SnapL.cons _ _ _ _ (snapTb (w := (fun i => 6 + 5 * i + 2)) (List.mem_append_left _ List.mem_cons_self) (List.mem_append_left _ (List.mem_cons_of_mem _ List.mem_cons_self)) (fun i hi => List.mem_append_right _ (List.mem_map.2 ⟨i, List.mem_range.2 hi, rfl⟩)) (by exact Q3) (fun i hi => by (simp (disch := omega) only [↓appC, ↓updN, ↓app0]); exact famA (w := (fun i => 6 + 5 * i + 2)) (fun a b _ _ e => by (try dsimp only at e); omega) hi) (by exact Q3) rfl rfl) SnapL.nil
theorem s37 (t : Tb) (b n1 n2 : Bool) (now : Int) (r : Rq) : Pure En 37 [.agg (t.T b n1 n2), .one (.int .i64 now), .agg r.T] [.agg ((apA t now r).1.T true false false), .agg (apA t now r).2.1.T, .one (.int .i64 (apA t now r).2.2)] := by
 refine Pure.of_wp Try.func37 rfl (Nat.le_of_ble_eq_true rfl) ?_
 refine wSeq (wRegion ?_)
 (refine rbx (u := .agg [.int .i64 t.tm, .int .i64 t.nx, .sl false n1 (t.lk.map (Lk.T b)), .sl false n2 (t.sn.map Sn.T)]) rfl rfl rfl rfl rfl rfl rfl ?_)
 refine rbx (u := .agg [.int _ _, .int _ _, .int _ _, .int _ _, .str _]) rfl rfl rfl rfl rfl rfl rfl (ral rfl rfl rfl rfl rfl rfl (ral rfl rfl rfl rfl rfl rfl (raI rfl rfl rfl rfl rfl (rNil (qSeq (wSeq (wSeq (wRegion ?_))))))))
 (apply rlr (vs := [.int _ _, .int _ _, _, _]) rfl rfl; exact Q0; exact Q13; rfl; (exact Nat.le_of_ble_eq_true rfl); rfl; rfl; rfl; rfl)
 refine rclP (s42 t b n1 n2) rfl rfl rfl rfl rfl rfl ?_ ?_ <;> intro h1_1
 ·refine rnot (c := true) rfl rfl rfl rfl rfl (rmB rfl rfl rfl rfl rfl ?_)
  (apply rlr (vs := [.int _ _, .int _ _, .int _ _, .int _ _, .str _]) rfl rfl; exact Q0; exact Q13; rfl; (exact Nat.le_of_ble_eq_true rfl); rfl; rfl; rfl; rfl)
  refine rclP (p73 r) rfl rfl rfl rfl rfl rfl ?_ ?_ <;> intro h1_5
  ·refine rnot (c := true) rfl rfl rfl rfl rfl (rpk (e := false) rfl rfl rfl rfl rfl rfl (rNil (qSeq (wF rfl (wSkip (qSeq (wSeq (wSeq (wRegion (rmI rfl rfl rfl rfl rfl ?_))))))))))
   refine rclP (p84 _ _ _) rfl rfl rfl rfl rfl rfl ?_ ?_ <;> intro h3_1
   ·refine rnot (c := true) rfl rfl rfl rfl rfl (rNil (qSeq (wF rfl (wSkip (qSeq (wSeq (wSeq (wRegion (rfa (off := 1) (s := 1) (r := false) rfl rfl rfl (Nat.succ_ne_zero _) rfl rfl rfl ?_)))))))))
    (apply rlc (v := .int _ _) rfl rfl; exact Q0; exact Q13; rfl; rfl; rfl; rfl; rfl)
    refine rgt rfl rfl rfl rfl rfl rfl ?_ ?_ <;> intro h5_2
    ·refine rNil (qSeq (wT rfl (wSeq (wRegion ?_))))
     (apply rlr (vs := [.int _ _, .int _ _, _, _]) rfl rfl; exact Q0; exact Q13; rfl; (exact Nat.le_of_ble_eq_true rfl); rfl; rfl; rfl; rfl)
     refine rcl (s44g t b n1 n2 (by have := h1_1.2.2.1; omega) (fun i hi => by have := OKw h1_1 hi; omega) (by have := h1_1.2.2.2.1; omega)) rfl rfl rfl rfl rfl rfl ?_
     refine rbd (cs := [.int _ _, .int _ _, .int _ _, .int _ _]) rfl rfl rfl rfl rfl ?_
     (apply rst (u := .agg [.int _ _, .int _ _, _, _]) rfl rfl rfl; exact Q0; exact Q13; rfl; rfl; rfl; rfl; (exact Nat.le_of_ble_eq_true rfl); rfl; rfl; rfl)
     (apply rst (u := .agg [.int _ _, .int _ _, .int _ _, .int _ _]) rfl rfl rfl; exact Q0; exact Q13; rfl; rfl; rfl; rfl; (exact Nat.le_of_ble_eq_true rfl); rfl; rfl; rfl)
     refine raI rfl rfl rfl rfl rfl (rNil (qSeq (wRet (qSeqR ?_))))
     rw [apA_used ⟨h1_1, h1_5⟩ h3_1 h5_2]; exact finS [] (resL_cons (resV_row rfl (by exact Q0) rfl rfl (Nat.le_of_ble_eq_true rfl) rfl) (resL_cons (resV_row rfl (by exact Q0) rfl rfl (Nat.le_of_ble_eq_true rfl) rfl) (resL_cons rfl resL_nil))) (SnapL.cons _ _ _ _ (SnapC.agg (.cons _ _ _ _ (.int _ _) (.cons _ _ _ _ (.int _ _) (.cons _ _ _ _ (.weak _ _ (.sl _ _ _ (fun _ => .inl rfl))) (.cons _ _ _ _ (.weak _ _ (.sl _ _ _ (fun _ => .inl rfl))) .nil))))) (SnapL.cons _ _ _ _ (SnapC.agg (.cons _ _ _ _ (.int _ _) (.cons _ _ _ _ (.int _ _) (.cons _ _ _ _ (.int _ _) (.cons _ _ _ _ (.int _ _) .nil))))) (SnapL.cons _ _ _ _ (.one _ _ (.int _ _)) SnapL.nil)))
    ·refine rNil (qSeq (wF rfl (wSkip (qSeq (wSeq ?_)))))
     have bq := Bq.of h1_1 h1_5 h3_1 (by omega)
     have bd := rqT_bd bq
     refine wRegion ?_
     (apply rlr (vs := [.int _ _, .int _ _, _, _]) rfl rfl; exact Q0; exact Q13; rfl; (exact Nat.le_of_ble_eq_true rfl); rfl; rfl; rfl; rfl)
     refine rmI rfl rfl rfl rfl rfl ?_
     (apply rlr (vs := [.int _ _, .int _ _, .int _ _, .int _ _, .str _]) rfl rfl; exact Q0; exact Q13; rfl; (exact Nat.le_of_ble_eq_true rfl); rfl; rfl; rfl; rfl)
     refine rcl (s68 t b n1 n2 now r bq (OK.w4 h1_1) (OK.hd h1_1) (OK.hdE h1_1 now) (by have := h1_5.2.2.1; omega)) rfl rfl rfl rfl rfl rfl ?_
     refine rmT rfl rfl rfl rfl rfl (rex rfl rfl rfl rfl rfl rfl (rex rfl rfl rfl rfl rfl rfl (ral rfl rfl rfl rfl rfl rfl (ral rfl rfl rfl rfl rfl rfl ?_))))
     (apply rst (u := .agg [.int _ _, .int _ _, _, _]) rfl rfl rfl; exact Q0; exact Q13; rfl; rfl; rfl; rfl; (exact Nat.le_of_ble_eq_true rfl); rfl; rfl; rfl)
     (apply rst (u := .agg [.int _ _, .int _ _, .int _ _, .int _ _]) rfl rfl rfl; exact Q0; exact Q13; rfl; rfl; rfl; rfl; (exact Nat.le_of_ble_eq_true rfl); rfl; rfl; rfl)
     refine rNil (qSeq (wSeq (wDraw [0, 1, 0, 3, 15, 31] rfl (by decide +kernel) ?_)))
     (apply dlr (vs := [.int _ _, .int _ _, _, _]) rfl rfl; exact Q0; exact Q13; rfl; (exact Nat.le_of_ble_eq_true rfl); rfl; rfl; rfl; rfl)
     refine dcl (s44g (rqT t now r).1 false false false (by have := bd.1; omega) (fun i hi => by have := bd.2.1 i hi; omega) (by have := bd.2.2; omega)) rfl rfl rfl rfl rfl rfl ?_
     (apply dlr (vs := [.int _ _, .int _ _, .int _ _, .int _ _]) rfl rfl; exact Q0; exact Q13; rfl; (exact Nat.le_of_ble_eq_true rfl); rfl; rfl; rfl; rfl)
     (apply dst (u := .agg [.int _ _, .int _ _, _, _]) rfl rfl rfl; exact Q0; exact Q13; rfl; rfl; rfl; rfl; (exact Nat.le_of_ble_eq_true rfl); rfl; rfl; rfl)
     (apply dst (u := .agg [.int _ _, .int _ _, .int _ _, .int _ _]) rfl rfl rfl; exact Q0; exact Q13; rfl; rfl; rfl; rfl; (exact Nat.le_of_ble_eq_true rfl); rfl; rfl; rfl)
     refine daI rfl rfl rfl rfl rfl (dNilR 6 [0, 3, 3, 1, 0, 1] [(2, 3)] rfl rfl (by decide +kernel) ?_ ?_)
     ·(simp [ClearL, ids]; try omega)
     refine qSeq (wRet ?_)
     rw [apA_go ⟨h1_1, h1_5⟩ h3_1 h5_2]; exact finS [] (resL_cons (resV_row rfl (by exact Q0) rfl rfl (Nat.le_of_ble_eq_true rfl) rfl) (resL_cons (resV_row rfl (by exact Q0) rfl rfl (Nat.le_of_ble_eq_true rfl) rfl) (resL_cons rfl resL_nil))) (SnapL.cons _ _ _ _ (SnapC.agg (.cons _ _ _ _ (.int _ _) (.cons _ _ _ _ (.int _ _) (.cons _ _ _ _ (.weak _ _ (.sl _ _ _ (fun _ => .inl rfl))) (.cons _ _ _ _ (.weak _ _ (.sl _ _ _ (fun _ => .inl rfl))) .nil))))) (SnapL.cons _ _ _ _ (SnapC.agg (.cons _ _ _ _ (.int _ _) (.cons _ _ _ _ (.int _ _) (.cons _ _ _ _ (.int _ _) (.cons _ _ _ _ (.int _ _) .nil))))) (SnapL.cons _ _ _ _ (.one _ _ (.int _ _)) SnapL.nil)))
   ·refine rnot (c := false) rfl rfl rfl rfl rfl (rNil (qSeq (wT rfl (wSeq (wRegion (rbd (cs := [.int _ _, .int _ _, _, _]) rfl rfl rfl rfl rfl (rbd (cs := [.int _ _, .int _ _, .int _ _, .int _ _]) rfl rfl rfl rfl rfl ?_)))))))
    (apply rst (u := .agg [.int _ _, .int _ _, _, _]) rfl rfl rfl; exact Q0; exact Q13; rfl; rfl; rfl; rfl; (exact Nat.le_of_ble_eq_true rfl); rfl; rfl; rfl)
    (apply rst (u := .agg [.int _ _, .int _ _, .int _ _, .int _ _]) rfl rfl rfl; exact Q0; exact Q13; rfl; rfl; rfl; rfl; (exact Nat.le_of_ble_eq_true rfl); rfl; rfl; rfl)
    refine raI rfl rfl rfl rfl rfl (rNil (qSeq (wRet (qSeqR ?_))))
    rw [apA_rng ⟨h1_1, h1_5⟩ h3_1]; exact finS [] (resL_cons (resV_row rfl (by exact Q0) rfl rfl (Nat.le_of_ble_eq_true rfl) rfl) (resL_cons (resV_row rfl (by exact Q0) rfl rfl (Nat.le_of_ble_eq_true rfl) rfl) (resL_cons rfl resL_nil))) (SnapL.cons _ _ _ _ (SnapC.agg (.cons _ _ _ _ (.int _ _) (.cons _ _ _ _ (.int _ _) (.cons _ _ _ _ .nslW (.cons _ _ _ _ .nslW .nil))))) (SnapL.cons _ _ _ _ (SnapC.agg (.cons _ _ _ _ (.int _ _) (.cons _ _ _ _ (.int _ _) (.cons _ _ _ _ (.int _ _) (.cons _ _ _ _ (.int _ _) .nil))))) (SnapL.cons _ _ _ _ (.one _ _ (.int _ _)) SnapL.nil)))
  ·refine rnot (c := false) rfl rfl rfl rfl rfl (rpk (e := true) rfl rfl rfl rfl rfl rfl (rNil (qSeq (wT rfl (wSeq (wRegion (rbd (cs := [.int _ _, .int _ _, _, _]) rfl rfl rfl rfl rfl (rbd (cs := [.int _ _, .int _ _, .int _ _, .int _ _]) rfl rfl rfl rfl rfl ?_))))))))
   (apply rst (u := .agg [.int _ _, .int _ _, _, _]) rfl rfl rfl; exact Q0; exact Q13; rfl; rfl; rfl; rfl; (exact Nat.le_of_ble_eq_true rfl); rfl; rfl; rfl)
   (apply rst (u := .agg [.int _ _, .int _ _, .int _ _, .int _ _]) rfl rfl rfl; exact Q0; exact Q13; rfl; rfl; rfl; rfl; (exact Nat.le_of_ble_eq_true rfl); rfl; rfl; rfl)
   refine raI rfl rfl rfl rfl rfl (rNil (qSeq (wRet (qSeqR ?_))))
   have hb : ¬ (t.OK ∧ r.OK) := (fun e => by have e1 := e.1; have e2 := e.2; first | exact h1_1 e1 | exact h1_5 e2)
   rw [apA_bad hb]; exact finS [] (resL_cons (resV_row rfl (by exact Q0) rfl rfl (Nat.le_of_ble_eq_true rfl) rfl) (resL_cons (resV_row rfl (by exact Q0) rfl rfl (Nat.le_of_ble_eq_true rfl) rfl) (resL_cons rfl resL_nil))) (SnapL.cons _ _ _ _ (SnapC.agg (.cons _ _ _ _ (.int _ _) (.cons _ _ _ _ (.int _ _) (.cons _ _ _ _ .nslW (.cons _ _ _ _ .nslW .nil))))) (SnapL.cons _ _ _ _ (SnapC.agg (.cons _ _ _ _ (.int _ _) (.cons _ _ _ _ (.int _ _) (.cons _ _ _ _ (.int _ _) (.cons _ _ _ _ (.int _ _) .nil))))) (SnapL.cons _ _ _ _ (.one _ _ (.int _ _)) SnapL.nil)))
 ·refine rnot (c := false) rfl rfl rfl rfl rfl (rmB rfl rfl rfl rfl rfl (rSkip rfl rfl rfl (rSkip rfl rfl rfl (rSkip rfl rfl rfl (rpk (e := true) rfl rfl rfl rfl rfl rfl (rNil (qSeq (wT rfl (wSeq (wRegion (rbd (cs := [.int _ _, .int _ _, _, _]) rfl rfl rfl rfl rfl (rbd (cs := [.int _ _, .int _ _, .int _ _, .int _ _]) rfl rfl rfl rfl rfl ?_))))))))))))
  (apply rst (u := .agg [.int _ _, .int _ _, _, _]) rfl rfl rfl; exact Q0; exact Q13; rfl; rfl; rfl; rfl; (exact Nat.le_of_ble_eq_true rfl); rfl; rfl; rfl)
  (apply rst (u := .agg [.int _ _, .int _ _, .int _ _, .int _ _]) rfl rfl rfl; exact Q0; exact Q13; rfl; rfl; rfl; rfl; (exact Nat.le_of_ble_eq_true rfl); rfl; rfl; rfl)
  refine raI rfl rfl rfl rfl rfl (rNil (qSeq (wRet (qSeqR ?_))))
  have hb : ¬ (t.OK ∧ r.OK) := (fun e => by have e1 := e.1; have e2 := e.2; first | exact h1_1 e1 | exact h1_5 e2)
  rw [apA_bad hb]; exact finS [] (resL_cons (resV_row rfl (by exact Q0) rfl rfl (Nat.le_of_ble_eq_true rfl) rfl) (resL_cons (resV_row rfl (by exact Q0) rfl rfl (Nat.le_of_ble_eq_true rfl) rfl) (resL_cons rfl resL_nil))) (SnapL.cons _ _ _ _ (SnapC.agg (.cons _ _ _ _ (.int _ _) (.cons _ _ _ _ (.int _ _) (.cons _ _ _ _ .nslW (.cons _ _ _ _ .nslW .nil))))) (SnapL.cons _ _ _ _ (SnapC.agg (.cons _ _ _ _ (.int _ _) (.cons _ _ _ _ (.int _ _) (.cons _ _ _ _ (.int _ _) (.cons _ _ _ _ (.int _ _) .nil))))) (SnapL.cons _ _ _ _ (.one _ _ (.int _ _)) SnapL.nil)))
open Go.V
set_option linter.unusedVariables false
set_option linter.unusedSimpArgs false
set_option maxRecDepth 20000
set_option maxHeartbeats 4000000
end Go.Proofs.Ytknnniaoboaghaa
