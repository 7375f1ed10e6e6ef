import Derived.Test.YtknnniaoboaghaaF11
namespace Go.Proofs.Ytknnniaoboaghaa
open Go.V
set_option linter.unusedVariables false
set_option linter.unusedSimpArgs false
set_option maxRecDepth 20000
set_option maxHeartbeats 4000000
theorem BG {R : List (List V)} {i : Nat} {x y : List V} (hi : i ≤ R.length) (e : y = x) : List.drop 0 (List.drop 0 (List.drop 0 [] ++ List.take ((i : Int).toNat - Int.toNat 0) (List.drop (Int.toNat 0) R)) ++ [y]) ++ List.take ((R.length : Int).toNat - (i : Int).toNat) (List.drop (i : Int).toNat R) = R.take i ++ x :: R.drop i := by
 subst e
 have z0 : Int.toNat 0 = 0 := rfl
 simp only [List.drop_zero, List.nil_append, Int.toNat_natCast, z0, Nat.sub_zero]
 rw [List.take_of_length_le (l := R.drop i) (by simp)]
 simp
theorem insLen2 {R : List (List V)} {i len : Nat} {y : List V} (hl : R.length = len) (hi : i ≤ len) : 0 + (List.take ((i : Int).toNat - Int.toNat 0) (List.drop (Int.toNat 0) R)).length + [y].length + (List.take ((R.length : Int).toNat - (i : Int).toNat) (List.drop (i : Int).toNat R)).length = len + 1 := by
 have z0 : Int.toNat 0 = 0 := rfl
 simp only [List.length_take, List.length_drop, List.length_cons, List.length_nil, z0, Int.toNat_natCast]
 omega
theorem s68 (t : Tb) (b n1 n2 : Bool) (now : Int) (r : Rq) (bq : Bq t now r) (hw4 : ∀ i, i < t.lk.length → (t.lk.getD i Lk0).ws.length ≤ 100) (hhd1 : ∀ i, i < t.lk.length → -1 ≤ (t.lk.getD i Lk0).hd) (hhd2 : ∀ i, i < (exT t now).lk.length → -1 ≤ ((exT t now).lk.getD i Lk0).hd) (hkd : r.kd ≤ 4 ∧ 1 ≤ r.kd) : Pure En 68 [.agg (t.T b n1 n2), .one (.int .i64 now), .agg r.T] [.agg ((rqT t now r).1.T false false false), .agg (rqT t now r).2.T] := by
 have hs6 := bq.s6
 have hcl := bq.bd.cl
 refine Pure.of_wp Try.func68 rfl kb ?_
 refine A2 (A0 ?_)
 (refine L7 (u := .agg [.int .i64 t.tm, .int .i64 t.nx, .sl false n1 (t.lk.map (Lk.T b)), .sl false n2 (t.sn.map Sn.T)]) j3 rfl j3 ?_)
 refine L7 (u := .agg [.int _ _, .int _ _, .int _ _, .int _ _, .str _]) j3 rfl j3 (H3 j6 (H3 j6 (A3 (A1 (A2 (A0 ?_))))))
 (apply F9 (vs := [.int _ _, .int _ _, _, _]) j2; exact Q0; exact C7; rfl; exact kb; rfl; exact j3)
 refine B6 j5 ?_
 refine K9 (o58 t b n1 n2 false now rfl bq.hM bq.hn bq.hL (by have := bq.s6; omega) hw4 hhd1 bq.hwl) rfl j5 ?_
 rintro _ g1 m1 ⟨Sl1, Ss1, W1, rfl, TV, fr1, le1⟩ hc1 hl1
 have kcl1 := TV.kl.cell
 have kcs1 := TV.ks.cell
 refine H3 j6 ?_
 (apply D4 (u := .agg [.int _ _, .int _ _, _, _]) j3; exact Q0; exact C7; rfl; rfl; rfl; exact Q8; exact kb; rfl; exact j2)
 refine A3 (A1 (A2 ?_))
 refine Y1 fun g2 hg2 => ?_
 have T1 : TabM (exT t now) m1 Sl1 Ss1 W1 g2 (m1 + 1) := TV.toM ⟨by omega, .inl (Nat.le_refl _)⟩ (by omega) (by rw [hg2]; (simp (disch := (first | omega | assumption)) only [↓appC, ↓updN, ↓updS, ↓app0]); rfl) (fun a h1 h2 => by rw [hg2]; (simp (disch := (first | omega | assumption)) only [↓appC, ↓updN, ↓updS, ↓app0]))
 have q1 : g2 (0 + 1) = some ⟨[[.int .i64 r.cl, .int .i64 r.st, .int .i64 r.kd, .int .i64 r.le, .str r.nm]], 5, 64⟩ := by rw [hg2]; (simp (disch := (first | omega | assumption)) only [↓appC, ↓updN, ↓updS, ↓app0]); rw [fr1 (0 + 1) (by omega)]; (simp (disch := (first | omega | assumption)) only [↓appC, ↓updN, ↓updS, ↓app0]); rfl
 have q2 : g2 (0 + 1 + 1) = some ⟨[[.int .i64 0, .int .i64 0, .nsl, .nsl]], 4, 35⟩ := by rw [hg2]; (simp (disch := (first | omega | assumption)) only [↓appC, ↓updN, ↓updS, ↓app0]); rw [fr1 (0 + 1 + 1) (by omega)]; (simp (disch := (first | omega | assumption)) only [↓appC, ↓updN, ↓updS, ↓app0]); rfl
 have q3 : g2 (0 + 1 + 1 + 1) = some ⟨[[.int .i64 0, .int .i64 0, .int .i64 0, .int .i64 0]], 4, 60⟩ := by rw [hg2]; (simp (disch := (first | omega | assumption)) only [↓appC, ↓updN, ↓updS, ↓app0]); rw [fr1 (0 + 1 + 1 + 1) (by omega)]; (simp (disch := (first | omega | assumption)) only [↓appC, ↓updN, ↓updS, ↓app0]); rfl
 have kid1 : g2 m1 = some ⟨[[.int .i64 (exT t now).tm, .int .i64 (exT t now).nx, Sl1, Ss1]], 4, 35⟩ := T1.kid
 have ks1 : IsZ g2 Ss1 (t.sn.map Sn.V) 6 115 := T1.ks
 have hlen1 := lenZ ks1
 rw [List.length_map] at hlen1
 have kz1 := fun (h : 0 < t.sn.length) => kZ ks1 (by rw [List.length_map]; exact h)
 have hP1 : ∀ a, OwnT m1 Sl1 Ss1 W1 (exT t now).lk.length a → 0 + 1 + 1 + 1 + 1 ≤ a := fun a o => by have := TV.ownM a o; omega
 have fo1 : idZ Ss1 = 0 ∨ (0 + 1 + 1 + 1 + 1 ≤ idZ Ss1 ∧ idZ Ss1 < m1) := by
  unfold idZ
  cases hx : fpV Ss1 with
  | none => exact .inl rfl
  | some a => exact .inr (TV.fs a hx).1
 refine A0 (D0 j5 (A3 (A1 (A2 (B3 (F0 ?_))))))
 refine E9 (fun (i : Nat) => [.unk, .unk, .unk, .unk, .unk, .ptr (0 + 1) 0 0, .ptr (0 + 1 + 1) 0 0, .ptr (0 + 1 + 1 + 1) 0 0, .ptr m1 0 0, .int .i64 i]) (fun (i : Nat) => g2) (fun (i : Nat) => m1 + 1) (fun (i : Nat) => i ≤ t.sn.length ∧ ∀ j, j < i → scl t.sn j < r.cl) (fun (i : Nat) => t.sn.length - i) 0 ?_ ?_ ?_ ?_ ?_
 ·exact ⟨Nat.zero_le _, W5⟩
 ·(repeat first | exact LE.nil _ | refine LE.unk _ _ ?_ | refine LE.eq _ _ _ rfl ?_)
 ·exact LessH.refl _
 ·exact Nat.le_refl _
 intro i hI ih
 refine E8 (A2 (A2 (C2 [0, 0, 2, 6, 15, 31, 63, 127, 63, 511, 1023, 2047, 63, 4159, 16383, 32767] rfl (by decide +kernel) ?_)))
 refine I0 j5 (D6 (off := 3) (s := 1) (r := false) j3 kz j3 ?_)
 (apply E1 (v := Ss1) j2; exact Q0; rfl; exact j5)
 (refine dll rfl rfl hlen1 j3 ?_)
 refine dlt j6 ?_ ?_ <;> intro h3_4
 ·refine H8 j5 (D6 (off := 3) (s := 1) (r := false) j3 kz j3 ?_)
  (apply E1 (v := Ss1) j2; exact Q0; rfl; exact j5)
  refine I0 j5 ?_
  (refine d0 ((K5 (v := Ss1) j4 (ks1) (by omega) (by rw [List.length_map]; omega)).to (v' := .ptr (idZ Ss1) i 0) (by rw [Int.toNat_natCast])) rfl rfl rfl ?_)
  refine D6 (off := 0) (s := 1) (r := false) j3 kz j3 ?_
  (apply E1 (v := .int .i64 (t.sn.getD i Sn0).cl) j2; exact kz1 (by omega); exact P6 (by omega); exact j5)
  refine D6 (off := 0) (s := 1) (r := false) j3 kz j3 ?_
  (apply E1 (v := .int _ _) j2; exact Q0; exact C7; exact j5)
  refine dlt j6 ?_ ?_ <;> intro h3_14
  ·refine G5 (e := true) j6 (B1 16 [0, 0, 1, 0, 1, 0, 1, 0, 1, 0, 0, 0, 0, 1, 0, 0] [] j2 (by decide +kernel) trivial ?_)
   refine A1 (wT rfl (B0 (A1 (B3 (A0 (B6 j5 (C3 j3 ?_ ?_ j3 ?_)))))))
   ·exact Q4
   ·exact Q4
   refine D0 j5 (A3 (B7 (D1 ?_)))
   exact H4 (ih (i + 1) ⟨by omega, U7 hI.2 h3_14⟩ (by omega)) (by (repeat first | exact LE.nil _ | refine LE.unk _ _ ?_ | refine LE.eq _ _ _ rfl ?_)) (LessH.refl _) (Nat.le_refl _)
  ·refine G5 (e := false) j6 (B1 16 [0, 0, 1, 0, 1, 0, 1, 0, 1, 0, 0, 0, 0, 1, 0, 0] [] j2 (by decide +kernel) trivial ?_)
   refine A1 (wF rfl (E5 (E6 (D7 (C8 (A1 (A2 ?_)))))))
   have hp : snP r.cl t.sn = i := by
    first
    | exact Y9 hI.1 hI.2 (fun _ => h3_14)
    | exact Y9 hI.1 hI.2 (fun h => absurd h (by omega))
   refine C2 [0, 0, 2, 6, 15, 31, 63, 127, 63, 511, 1023, 2047, 63, 4159, 16383, 32767, 65535] rfl (by decide +kernel) ?_
   refine I0 j5 (D6 (off := 3) (s := 1) (r := false) j3 kz j3 ?_)
   (apply E1 (v := Ss1) j2; exact Q0; rfl; exact j5)
   (refine dll rfl rfl hlen1 j3 ?_)
   refine dlt j6 ?_ (fun h => absurd (by omega) h)
   intro h5_4
   refine H8 j5 (D6 (off := 3) (s := 1) (r := false) j3 kz j3 ?_)
   (apply E1 (v := Ss1) j2; exact Q0; rfl; exact j5)
   refine I0 j5 ?_
   (refine d0 ((K5 (v := Ss1) j4 (ks1) (by omega) (by rw [List.length_map]; omega)).to (v' := .ptr (idZ Ss1) i 0) (by rw [Int.toNat_natCast])) rfl rfl rfl ?_)
   refine D6 (off := 0) (s := 1) (r := false) j3 kz j3 ?_
   (apply E1 (v := .int .i64 (t.sn.getD i Sn0).cl) j2; exact kz1 (by omega); exact P6 (by omega); exact j5)
   refine D6 (off := 0) (s := 1) (r := false) j3 kz j3 ?_
   (apply E1 (v := .int _ _) j2; exact Q0; exact C7; exact j5)
   refine deq j6 ?_ ?_ <;> intro h5_14
   ·refine G5 (e := true) j6 (K3 j5 (B1 17 [0, 0, 0, 1, 0, 1, 0, 1, 0, 1, 0, 0, 0, 0, 1, 0, 0] [] j2 (by decide +kernel) trivial ?_))
    refine A1 (A2 (B3 (A2 ?_)))
    have hcase : (i < t.sn.length ∧ (t.sn.getD i Sn0).cl = r.cl ∧ snH r.cl t.sn) ∨ (¬ snH r.cl t.sn) := by
     by_cases hs : snH r.cl t.sn
     ·left; have h1 := hs.1; have h2 := hs.2; rw [hp] at h1 h2; exact ⟨h1, h2, hs⟩
     ·exact .inr hs
    have hsn : (i < t.sn.length ∧ (t.sn.getD i Sn0).cl = r.cl) → snH r.cl t.sn := fun h => by unfold snH; rw [hp]; exact h
    refine C2 [0, 1, 3, 7, 3, 31, 63, 127, 3, 259, 1023, 2047, 4095] rfl (by decide +kernel) ?_
    refine H8 j5 (H8 j5 (D6 (off := 3) (s := 1) (r := false) j3 kz j3 ?_))
    (apply E1 (v := Ss1) j2; exact Q0; rfl; exact j5)
    refine I0 j5 ?_
    (refine d0 ((K5 (v := Ss1) j4 (ks1) (by omega) (by rw [List.length_map]; omega)).to (v' := .ptr (idZ Ss1) i 0) (by rw [Int.toNat_natCast])) rfl rfl rfl ?_)
    refine D6 (off := 1) (s := 1) (r := false) j3 kz j3 ?_
    (apply E1 (v := .int .i64 (t.sn.getD i Sn0).st) j2; exact kz1 (by omega); exact P6 (by omega); exact j5)
    refine D6 (off := 1) (s := 1) (r := false) j3 kz j3 ?_
    (apply E1 (v := .int _ _) j2; exact Q0; exact C7; exact j5)
    refine deq j6 ?_ ?_ <;> intro h6_10
    ·refine G5 (e := true) j6 (K3 j5 (B1 13 [0, 0, 0, 1, 0, 1, 0, 1, 0, 1, 0, 0, 0] [] j2 (by decide +kernel) trivial ?_))
     refine A1 (wT rfl (A2 (C2 [0, 0, 2, 0, 14, 30, 62, 1, 255] rfl (by decide +kernel) ?_)))
     (apply L8 (vs := [.int .i64 (exT t now).tm, .int .i64 (exT t now).nx, Sl1, Ss1]) j2; exact Q0; rfl; rfl; exact kb; exact j4)
     refine D6 (off := 3) (s := 1) (r := false) j3 kz j3 ?_
     (apply E1 (v := Ss1) j2; exact Q0; rfl; exact j5)
     refine I0 j5 ?_
     (refine d0 ((K5 (v := Ss1) j4 (ks1) (by omega) (by rw [List.length_map]; omega)).to (v' := .ptr (idZ Ss1) i 0) (by rw [Int.toNat_natCast])) rfl rfl rfl ?_)
     refine D6 (off := 2) (s := 4) (r := true) j3 kz j3 ?_
     (apply L8 (vs := [.int .i64 (t.sn.getD i Sn0).an.kd, .int .i64 (t.sn.getD i Sn0).an.tk, .int .i64 (t.sn.getD i Sn0).an.hd, .int .i64 (t.sn.getD i Sn0).an.ex]) j2; exact kz1 (by omega); exact P6 (by omega); rfl; exact kb; exact j4)
     (apply dst (u := .agg [.int _ _, .int _ _, _, _]) rfl rfl rfl; exact Q0; exact C7; rfl; rfl; rfl; exact Q8; exact kb; rfl; rfl; rfl)
     (apply dst (u := .agg [.int _ _, .int _ _, .int _ _, .int _ _]) rfl rfl rfl; exact Q0; exact C7; rfl; rfl; rfl; exact Q8; exact kb; rfl; rfl; rfl)
     refine B1 9 [3, 3, 1, 0, 1, 0, 1, 0, 1] [(2, 7), (4, 7), (6, 7)] j2 (by decide +kernel) ?_ ?_
     ·(first | (focus (simp [ClearL, ids]; done)) | (focus (simp [ClearL, ids]; omega)) | (simp [ClearL, ids, Env.eval, upd]; (repeat' (first | omega | (intro hx; have := fo4 _ _ _ hx; omega) | apply And.intro))))
     refine A1 (A9 (B4 (B2 ?_)))
     have e : rqT t now r = (exT t now, (t.sn.getD i Sn0).an) := by
      unfold rqT; rw [reqT_same (t := exT t now) (hsn ⟨by omega, by omega⟩) (by show (t.sn.getD (snP r.cl t.sn) Sn0).st = r.st; rw [hp]; exact h6_10)]
      show (_, (t.sn.getD (snP r.cl t.sn) Sn0).an) = _; rw [hp]
     rw [e]
     refine P9 (tabIds Sl1 Ss1 W1 (exT t now).lk.length) (A5 (A7 rfl (by exact Q0) j2 kb rfl) (A5 (A7 rfl (by exact Q0) j2 kb rfl) A8)) ?_
     refine SnapL.cons _ _ _ _ (H2 (t := exT t now) ?_ ?_ (fun j hj => ?_) (fun a ha => ha)) (SnapL.cons _ _ _ _ (SnapC.agg (.cons _ _ _ _ (.int _ _) (.cons _ _ _ _ (.int _ _) (.cons _ _ _ _ (.int _ _) (.cons _ _ _ _ (.int _ _) .nil))))) SnapL.nil)
     ·exact T1.kl.mono (fun a ha => by have q := hP1 a (.inr (.inl ha)); (simp (disch := (first | omega | assumption)) only [↓appC, ↓updN, ↓updS, ↓app0]))
     ·exact T1.ks.mono (fun a ha => by have q := hP1 a (.inr (.inr (.inl ha))); (simp (disch := (first | omega | assumption)) only [↓appC, ↓updN, ↓updS, ↓app0]))
     ·exact (T1.kw j hj).mono (fun a ha => by have q := hP1 a (.inr (.inr (.inr ⟨j, hj, ha⟩))); (simp (disch := (first | omega | assumption)) only [↓appC, ↓updN, ↓updS, ↓app0]))
    ·refine G5 (e := false) j6 (K3 j5 (B1 13 [0, 0, 0, 1, 0, 1, 0, 1, 0, 1, 0, 0, 0] [] j2 (by decide +kernel) trivial ?_))
     refine A1 (wF rfl (A2 (C2 [0, 1, 3, 7, 3, 31, 63, 127, 3, 259, 1023, 2047, 4095] rfl (by decide +kernel) ?_)))
     refine H8 j5 (H8 j5 (D6 (off := 3) (s := 1) (r := false) j3 kz j3 ?_))
     (apply E1 (v := Ss1) j2; exact Q0; rfl; exact j5)
     refine I0 j5 ?_
     (refine d0 ((K5 (v := Ss1) j4 (ks1) (by omega) (by rw [List.length_map]; omega)).to (v' := .ptr (idZ Ss1) i 0) (by rw [Int.toNat_natCast])) rfl rfl rfl ?_)
     refine D6 (off := 1) (s := 1) (r := false) j3 kz j3 ?_
     (apply E1 (v := .int .i64 (t.sn.getD i Sn0).st) j2; exact kz1 (by omega); exact P6 (by omega); exact j5)
     refine D6 (off := 1) (s := 1) (r := false) j3 kz j3 ?_
     (apply E1 (v := .int _ _) j2; exact Q0; exact C7; exact j5)
     refine dgt j6 ?_ ?_ <;> intro h8_10
     ·refine G5 (e := true) j6 (K3 j5 (B1 13 [0, 0, 0, 1, 0, 1, 0, 1, 0, 1, 0, 0, 0] [] j2 (by decide +kernel) trivial ?_))
      refine A1 (wT rfl (A2 (A0 ?_)))
      (apply F9 (vs := [.int .i64 (exT t now).tm, .int .i64 (exT t now).nx, Sl1, Ss1]) j2; exact Q0; rfl; rfl; exact kb; rfl; exact j3)
      refine L6 (cs := [.int _ _, .int _ _, .int _ _, .int _ _]) j5 ?_
      (apply D4 (u := .agg [.int _ _, .int _ _, _, _]) j3; exact Q0; exact C7; rfl; rfl; rfl; exact Q8; exact kb; rfl; exact j2)
      (apply D4 (u := .agg [.int _ _, .int _ _, .int _ _, .int _ _]) j3; exact Q0; exact C7; rfl; rfl; rfl; exact Q8; exact kb; rfl; exact j2)
      refine A3 (A1 (A9 (B4 (B2 ?_))))
      have e : rqT t now r = (exT t now, bareA 7) := by
       unfold rqT; exact reqT_old (t := exT t now) (hsn ⟨by omega, by omega⟩) (by show ¬ (t.sn.getD (snP r.cl t.sn) Sn0).st = r.st; rw [hp]; exact h6_10) (by show (t.sn.getD (snP r.cl t.sn) Sn0).st > r.st; rw [hp]; exact h8_10)
      rw [e]
      refine P9 (tabIds Sl1 Ss1 W1 (exT t now).lk.length) (A5 (A7 rfl (by exact Q0) j2 kb rfl) (A5 (A7 rfl (by exact Q0) j2 kb rfl) A8)) ?_
      refine SnapL.cons _ _ _ _ (H2 (t := exT t now) ?_ ?_ (fun j hj => ?_) (fun a ha => ha)) (SnapL.cons _ _ _ _ (SnapC.agg (.cons _ _ _ _ (.int _ _) (.cons _ _ _ _ (.int _ _) (.cons _ _ _ _ (.int _ _) (.cons _ _ _ _ (.int _ _) .nil))))) SnapL.nil)
      ·exact T1.kl.mono (fun a ha => by have q := hP1 a (.inr (.inl ha)); (simp (disch := (first | omega | assumption)) only [↓appC, ↓updN, ↓updS, ↓app0]))
      ·exact T1.ks.mono (fun a ha => by have q := hP1 a (.inr (.inr (.inl ha))); (simp (disch := (first | omega | assumption)) only [↓appC, ↓updN, ↓updS, ↓app0]))
      ·exact (T1.kw j hj).mono (fun a ha => by have q := hP1 a (.inr (.inr (.inr ⟨j, hj, ha⟩))); (simp (disch := (first | omega | assumption)) only [↓appC, ↓updN, ↓updS, ↓app0]))
     ·refine G5 (e := false) j6 (K3 j5 (B1 13 [0, 0, 0, 1, 0, 1, 0, 1, 0, 1, 0, 0, 0] [] j2 (by decide +kernel) trivial ?_))
      refine A1 (wF rfl (A2 (A0 (C4 j5 (D5 (c := true) j5 (C4 j5 (A4 j3 (A4 j3 (A4 j3 (A4 j3 (C0 (e := false) j6 (C6 j5 ?_))))))))))))
      refine A3 (A1 (wF rfl (B0 (B7 (A1 (A2 (A0 ?_)))))))
      (apply F9 (vs := [.int _ _, .int _ _, .int _ _, .int _ _, .str _]) j2; exact Q0; exact C7; rfl; exact kb; rfl; exact j3)
      refine K9 (o106 (exT t now) r bq.bd hhd2 T1 hkd) rfl j5 ?_
      rintro _ g3 m2 ⟨rfl, S2⟩ hc2 hl2
      obtain ⟨Sl2, Ss2, W2, T2, x1, x2, x3⟩ := S2
      have hO1 : ∀ a, OwnT m1 Sl1 Ss1 W1 (exT t now).lk.length a → 4 ≤ a := fun a o => by have := TV.ownM a o; omega
      have hO : ∀ a, OwnT m1 Sl2 Ss2 W2 (doT (exT t now) r).1.lk.length a → 4 ≤ a := fun a o => (x1 a o).elim (fun e => hO1 a e) (fun e => by omega)
      have p1 : g3 (0 + 1) = some ⟨[[.int .i64 r.cl, .int .i64 r.st, .int .i64 r.kd, .int .i64 r.le, .str r.nm]], 5, 64⟩ := by rw [x2 (0 + 1) (by omega) (fun o => by have := hO1 _ o; omega)]; exact q1
      have p2 : g3 (0 + 1 + 1) = some ⟨[[.int .i64 0, .int .i64 0, .nsl, .nsl]], 4, 35⟩ := by rw [x2 (0 + 1 + 1) (by omega) (fun o => by have := hO1 _ o; omega)]; exact q2
      have p3 : g3 (0 + 1 + 1 + 1) = some ⟨[[.int .i64 0, .int .i64 0, .int .i64 0, .int .i64 0]], 4, 60⟩ := by rw [x2 (0 + 1 + 1 + 1) (by omega) (fun o => by have := hO1 _ o; omega)]; exact q3
      have kid2 : g3 m1 = some ⟨[[.int .i64 (doT (exT t now) r).1.tm, .int .i64 (doT (exT t now) r).1.nx, Sl2, Ss2]], 4, 35⟩ := T2.kid
      have ks2 : IsZ g3 Ss2 (t.sn.map Sn.V) 6 115 := by have := T2.ks; rwa [BF] at this
      have kcl2 := T2.kl.cell
      have kcs2 := ks2.cell
      have hlen2 := lenZ ks2
      rw [List.length_map] at hlen2
      have kz2 := fun (h : 0 < t.sn.length) => kZ ks2 (by rw [List.length_map]; exact h)
      have fz2 := fun (h : 0 < t.sn.length) => T2.fs _ (fpZ ks2 (by rw [List.length_map]; exact h))
      have fo3 : idZ Ss2 < m2 ∧ idZ Ss2 ≠ m1 := by
       unfold idZ
       cases hx : fpV Ss2 with
       | none => exact ⟨by show 0 < m2; omega, by show 0 ≠ m1; omega⟩
       | some a => have := T2.fs a hx; exact ⟨this.1, this.2.1⟩
      have fo4 : ∀ a b x, x ∈ srcIds (slZ Ss2 a b) → x < m2 ∧ x ≠ m1 := fun a b x hx => by rw [idsZ _ _ _ x hx]; exact fo3
      have fo2 := fun (h : 0 < t.sn.length) => hO _ (.inr (.inr (.inl (fpZ ks2 (by rw [List.length_map]; exact h)))))
      refine H3 j6 ?_
      (apply D4 (u := .agg [.int _ _, .int _ _, .int _ _, .int _ _]) j3; exact Q0; exact C7; rfl; rfl; rfl; exact Q8; exact kb; rfl; exact j2)
      refine A3 (A1 (A2 (A0 (C1 (off := 0) (s := 1) (r := false) j3 kz j3 ?_))))
      (apply C5 (v := .int _ _) j2; exact Q0; exact C7; exact j5)
      refine C1 (off := 1) (s := 1) (r := false) j3 kz j3 ?_
      (apply C5 (v := .int _ _) j2; exact Q0; exact C7; exact j5)
      (apply F9 (vs := [.int _ _, .int _ _, .int _ _, .int _ _]) j2; exact Q0; exact C7; rfl; exact kb; rfl; exact j3)
      refine L6 (cs := [.int _ _, .int _ _, .int _ _, .int _ _, .int _ _, .int _ _]) j5 (H3 j6 ?_)
      (apply D4 (u := .agg [.int _ _, .int _ _, .int _ _, .int _ _, .int _ _, .int _ _]) j3; exact Q0; exact C7; rfl; rfl; rfl; exact Q8; exact kb; rfl; exact j2)
      refine A3 (A1 (A2 (A2 (A0 (C4 j5 (A3 (A1 (wT rfl ?_))))))))
      have fzA := fz2 (by omega)
      have fzB := fo2 (by omega)
      have fzC := fzA.1; have fzD := fzA.2.1
      have kzA := kz2 (by omega)
      have snA := P6 (L := t.sn) (k := i) (by omega)
      refine A0 (C1 (off := 3) (s := 1) (r := false) j3 kz j3 ?_)
      (apply C5 (v := Ss2) j2; exact Q0; rfl; exact j5)
      refine B6 j5 ?_
      (apply F9 (vs := [.int _ _, .int _ _, .int _ _, .int _ _, .int _ _, .int _ _]) j2; exact Q0; exact C7; rfl; exact kb; rfl; exact j3)
      (refine r0 ((K5 (v := Ss2) j4 (ks2.mono (fun a ha => by have q := T2.fs a ha; have qa := q.1; have qb := q.2.1; have qc := hO a (.inr (.inr (.inl ha))); (simp (disch := (first | omega | assumption)) only [↓appC, ↓updN, ↓updS, ↓app0]))) (by omega) (by rw [List.length_map]; omega)).to (v' := .ptr (idZ Ss2) i 0) (by rw [Int.toNat_natCast])) rfl rfl rfl ?_)
      (apply D4 (u := .agg [.int _ _, .int _ _, .int _ _, .int _ _, .int _ _, .int _ _]) j3; exact Q0; exact C7; rfl; rfl; rfl; exact Q8; exact kb; rfl; exact j2)
      refine A3 (A1 (A2 (C2 [0, 0, 1, 7] rfl (by decide +kernel) ?_)))
      (apply L8 (vs := [.int _ _, .int _ _, _, _]) j2; exact Q0; exact C7; rfl; exact kb; exact j4)
      (apply L8 (vs := [.int _ _, .int _ _, .int _ _, .int _ _]) j2; exact Q0; exact C7; rfl; exact kb; exact j4)
      (apply dst (u := .agg [.int _ _, .int _ _, _, _]) rfl rfl rfl; exact Q0; exact C7; rfl; rfl; rfl; exact Q8; exact kb; rfl; rfl; rfl)
      (apply dst (u := .agg [.int _ _, .int _ _, .int _ _, .int _ _]) rfl rfl rfl; exact Q0; exact C7; rfl; rfl; rfl; exact Q8; exact kb; rfl; rfl; rfl)
      refine B1 4 [3, 3, 1, 1] [(1, 2)] j2 (by decide +kernel) ?_ ?_
      ·(first | (focus (simp [ClearL, ids]; done)) | (focus (simp [ClearL, ids]; omega)) | (simp [ClearL, ids, Env.eval, upd]; (repeat' (first | omega | (intro hx; have := fo4 _ _ _ hx; omega) | apply And.intro))))
      refine A1 (A9 ?_)
      first
      | (have hthere := hsn ⟨by omega, by omega⟩
         obtain ⟨sb, esb, ksb⟩ := ks2.some (by rw [List.length_map]; omega)
         rw [List.length_map] at esb
         have eid : idZ Ss2 = sb := by rw [esb]; rfl
         have fsb : fpV Ss2 = some (idZ Ss2) := by rw [esb]; rfl
         have fzA := fz2 (by omega)
         have fzB := fo2 (by omega)
         have e : rqT t now r = (⟨(doT (exT t now) r).1.tm, (doT (exT t now) r).1.nx, (doT (exT t now) r).1.lk, t.sn.set i ⟨r.cl, r.st, (doT (exT t now) r).2⟩⟩, (doT (exT t now) r).2) := by
           unfold rqT; rw [U5 (t := exT t now) hthere (by show ¬ (t.sn.getD (snP r.cl t.sn) Sn0).st = r.st; rw [hp]; exact h6_10) (by show ¬ (t.sn.getD (snP r.cl t.sn) Sn0).st > r.st; rw [hp]; exact h8_10)]
           show (Tb.mk _ _ _ (t.sn.set (snP r.cl t.sn) _), _) = _; rw [hp]
         rw [e]
         refine P9 (tabIds Sl2 Ss2 W2 (doT (exT t now) r).1.lk.length) (A5 (A7 rfl (by exact Q0) j2 kb rfl) (A5 (A7 rfl (by exact Q0) j2 kb rfl) A8)) ?_
         refine SnapL.cons _ _ _ _ (H2 (t := ⟨(doT (exT t now) r).1.tm, (doT (exT t now) r).1.nx, (doT (exT t now) r).1.lk, t.sn.set i ⟨r.cl, r.st, (doT (exT t now) r).2⟩⟩) ?_ ?_ (fun j hj => ?_) (fun a ha => ha)) (SnapL.cons _ _ _ _ (SnapC.agg (.cons _ _ _ _ (.int _ _) (.cons _ _ _ _ (.int _ _) (.cons _ _ _ _ (.int _ _) (.cons _ _ _ _ (.int _ _) .nil))))) SnapL.nil)
         focus (exact T2.kl.mono (fun a ha => by have q := hO a (.inr (.inl ha)); have q9 := T2.lt (a := a) (.inr (.inl ha)); have q8 : a ≠ idZ Ss2 := fun e => fzA.2.2 (by rw [← e]; exact ha); have q7 : a ≠ m1 := (T2.fl a ha).2; (simp (disch := (first | omega | assumption)) only [↓appC, ↓updN, ↓updS, ↓app0])))
         rotate_left
         focus (exact (T2.kw j hj).mono (fun a ha => by have q := hO a (.inr (.inr (.inr ⟨j, hj, ha⟩))); have q9 := T2.lt (a := a) (.inr (.inr (.inr ⟨j, hj, ha⟩))); have q8 : a ≠ idZ Ss2 := fun e => (T2.fw j a hj ha).2.2.2.1 (by rw [e]; exact fsb); have q7 : a ≠ m1 := (T2.fw j a hj ha).2.1; (simp (disch := (first | omega | assumption)) only [↓appC, ↓updN, ↓updS, ↓app0])))
         refine .inr ⟨idZ Ss2, by rw [List.length_map, List.length_set, eid]; exact esb, ?_⟩
         (simp (disch := (first | omega | assumption)) only [↓appC, ↓updN, ↓updS, ↓app0])
         exact congrArg (fun z => some (Blk.mk z 6 115)) (by rw [List.map_set]; rfl))
      | (have hnot := (show ¬ snH r.cl t.sn by unfold snH; rw [hp]; intro hx; have hx1 := hx.1; have hx2 := hx.2; omega)
         have e : rqT t now r = (⟨(doT (exT t now) r).1.tm, (doT (exT t now) r).1.nx, (doT (exT t now) r).1.lk, insL t.sn i ⟨r.cl, r.st, (doT (exT t now) r).2⟩⟩, (doT (exT t now) r).2) := by
           unfold rqT; rw [X6 (t := exT t now) hnot (by show ¬ t.sn.length = 6; omega)]
           show (Tb.mk _ _ _ (insL t.sn (snP r.cl t.sn) _), _) = _; rw [hp]
         rw [e]
         refine P9 (tabIds Sl2 (.view (m2 + 1 + 1 + 1 + 1 + 1 + 1) 0 0) W2 (doT (exT t now) r).1.lk.length) (A5 (A7 rfl (by exact Q0) j2 kb rfl) (A5 (A7 rfl (by exact Q0) j2 kb rfl) A8)) ?_
         refine SnapL.cons _ _ _ _ (H2 (t := ⟨(doT (exT t now) r).1.tm, (doT (exT t now) r).1.nx, (doT (exT t now) r).1.lk, insL t.sn i ⟨r.cl, r.st, (doT (exT t now) r).2⟩⟩) ?_ ?_ (fun j hj => ?_) (fun a ha => ha)) (SnapL.cons _ _ _ _ (SnapC.agg (.cons _ _ _ _ (.int _ _) (.cons _ _ _ _ (.int _ _) (.cons _ _ _ _ (.int _ _) (.cons _ _ _ _ (.int _ _) .nil))))) SnapL.nil)
         focus (exact T2.kl.mono (fun a ha => by have q := hO a (.inr (.inl ha)); have q9 := T2.lt (a := a) (.inr (.inl ha)); have q7 : a ≠ m1 := (T2.fl a ha).2; (simp (disch := (first | omega | assumption)) only [↓appC, ↓updN, ↓updS, ↓app0])))
         rotate_left
         focus (exact (T2.kw j hj).mono (fun a ha => by have q := hO a (.inr (.inr (.inr ⟨j, hj, ha⟩))); have q9 := T2.lt (a := a) (.inr (.inr (.inr ⟨j, hj, ha⟩))); have q7 : a ≠ m1 := (T2.fw j a hj ha).2.1; (simp (disch := (first | omega | assumption)) only [↓appC, ↓updN, ↓updS, ↓app0])))
         refine .inr ⟨m2 + 1 + 1 + 1 + 1 + 1 + 1, congrArg (V.view _ 0) ((insLen2 (List.length_map ..) hI.1).trans (by rw [List.length_map, I5 hI.1])), ?_⟩
         (simp (disch := (first | omega | assumption)) only [↓appC, ↓updN, ↓updS, ↓app0])
         exact congrArg (fun z => some (Blk.mk z 6 115)) ((BG (by rw [List.length_map]; exact hI.1) rfl).trans (BO Sn.V t.sn i ⟨r.cl, r.st, (doT (exT t now) r).2⟩).symm))
   ·refine G5 (e := false) j6 (K3 j5 (B1 17 [0, 0, 0, 1, 0, 1, 0, 1, 0, 1, 0, 0, 0, 0, 1, 0, 0] [] j2 (by decide +kernel) trivial ?_))
    refine A1 (A2 (B3 (A2 ?_)))
    have hcase : (i < t.sn.length ∧ (t.sn.getD i Sn0).cl = r.cl ∧ snH r.cl t.sn) ∨ (¬ snH r.cl t.sn) := by
     by_cases hs : snH r.cl t.sn
     ·left; have h1 := hs.1; have h2 := hs.2; rw [hp] at h1 h2; exact ⟨h1, h2, hs⟩
     ·exact .inr hs
    have hsn : (i < t.sn.length ∧ (t.sn.getD i Sn0).cl = r.cl) → snH r.cl t.sn := fun h => by unfold snH; rw [hp]; exact h
    refine C2 [0, 1, 3, 7, 3, 31, 63, 127, 3, 259, 1023, 2047, 4095] rfl (by decide +kernel) ?_
    refine H8 j5 (H8 j5 (A6 j3 (A6 j3 (A6 j3 (A6 j3 (A6 j3 (A6 j3 (A6 j3 (A6 j3 (A6 j3 (G5 (e := false) j6 (K3 j5 ?_))))))))))))
    refine B1 13 [0, 0, 0, 0, 0, 0, 0, 0, 0, 0, 0, 0, 0] [] j2 (by decide +kernel) trivial ?_
    refine A1 (wF rfl (A2 (C2 [0, 1, 3, 7, 3, 31, 63, 127, 3, 259, 1023, 2047, 4095] rfl (by decide +kernel) ?_)))
    refine H8 j5 (H8 j5 (A6 j3 (A6 j3 (A6 j3 (A6 j3 (A6 j3 (A6 j3 (A6 j3 (A6 j3 (A6 j3 (G5 (e := false) j6 (K3 j5 ?_))))))))))))
    refine B1 13 [0, 0, 0, 0, 0, 0, 0, 0, 0, 0, 0, 0, 0] [] j2 (by decide +kernel) trivial ?_
    refine A1 (wF rfl (A2 (A0 (C4 j5 (D5 (c := false) j5 (C4 j5 (C1 (off := 3) (s := 1) (r := false) j3 kz j3 ?_)))))))
    (apply C5 (v := Ss1) j2; exact Q0; rfl; exact j5)
    (refine H0 rfl rfl hlen1 j3 ?_)
    refine H5 j6 ?_ ?_ <;> intro h10_6
    ·refine C0 (e := true) j6 (C6 j5 (A3 (A1 (wT rfl (A2 (A0 ?_))))))
     (apply F9 (vs := [.int .i64 (exT t now).tm, .int .i64 (exT t now).nx, Sl1, Ss1]) j2; exact Q0; rfl; rfl; exact kb; rfl; exact j3)
     refine L6 (cs := [.int _ _, .int _ _, .int _ _, .int _ _]) j5 ?_
     (apply D4 (u := .agg [.int _ _, .int _ _, _, _]) j3; exact Q0; exact C7; rfl; rfl; rfl; exact Q8; exact kb; rfl; exact j2)
     (apply D4 (u := .agg [.int _ _, .int _ _, .int _ _, .int _ _]) j3; exact Q0; exact C7; rfl; rfl; rfl; exact Q8; exact kb; rfl; exact j2)
     refine A3 (A1 (A9 (B4 (B2 ?_))))
     have e : rqT t now r = (exT t now, bareA 6) := by
      unfold rqT; exact Y6 (t := exT t now) (show ¬ snH r.cl t.sn by unfold snH; rw [hp]; intro hx; have hx1 := hx.1; have hx2 := hx.2; omega) (by show t.sn.length = 6; omega)
     rw [e]
     refine P9 (tabIds Sl1 Ss1 W1 (exT t now).lk.length) (A5 (A7 rfl (by exact Q0) j2 kb rfl) (A5 (A7 rfl (by exact Q0) j2 kb rfl) A8)) ?_
     refine SnapL.cons _ _ _ _ (H2 (t := exT t now) ?_ ?_ (fun j hj => ?_) (fun a ha => ha)) (SnapL.cons _ _ _ _ (SnapC.agg (.cons _ _ _ _ (.int _ _) (.cons _ _ _ _ (.int _ _) (.cons _ _ _ _ (.int _ _) (.cons _ _ _ _ (.int _ _) .nil))))) SnapL.nil)
     ·exact T1.kl.mono (fun a ha => by have q := hP1 a (.inr (.inl ha)); (simp (disch := (first | omega | assumption)) only [↓appC, ↓updN, ↓updS, ↓app0]))
     ·exact T1.ks.mono (fun a ha => by have q := hP1 a (.inr (.inr (.inl ha))); (simp (disch := (first | omega | assumption)) only [↓appC, ↓updN, ↓updS, ↓app0]))
     ·exact (T1.kw j hj).mono (fun a ha => by have q := hP1 a (.inr (.inr (.inr ⟨j, hj, ha⟩))); (simp (disch := (first | omega | assumption)) only [↓appC, ↓updN, ↓updS, ↓app0]))
    ·refine C0 (e := false) j6 (C6 j5 (A3 (A1 (wF rfl (B0 (B7 (A1 (A2 (A0 ?_)))))))))
     (apply F9 (vs := [.int _ _, .int _ _, .int _ _, .int _ _, .str _]) j2; exact Q0; exact C7; rfl; exact kb; rfl; exact j3)
     refine K9 (o106 (exT t now) r bq.bd hhd2 T1 hkd) rfl j5 ?_
     rintro _ g3 m2 ⟨rfl, S2⟩ hc2 hl2
     obtain ⟨Sl2, Ss2, W2, T2, x1, x2, x3⟩ := S2
     have hO1 : ∀ a, OwnT m1 Sl1 Ss1 W1 (exT t now).lk.length a → 4 ≤ a := fun a o => by have := TV.ownM a o; omega
     have hO : ∀ a, OwnT m1 Sl2 Ss2 W2 (doT (exT t now) r).1.lk.length a → 4 ≤ a := fun a o => (x1 a o).elim (fun e => hO1 a e) (fun e => by omega)
     have p1 : g3 (0 + 1) = some ⟨[[.int .i64 r.cl, .int .i64 r.st, .int .i64 r.kd, .int .i64 r.le, .str r.nm]], 5, 64⟩ := by rw [x2 (0 + 1) (by omega) (fun o => by have := hO1 _ o; omega)]; exact q1
     have p2 : g3 (0 + 1 + 1) = some ⟨[[.int .i64 0, .int .i64 0, .nsl, .nsl]], 4, 35⟩ := by rw [x2 (0 + 1 + 1) (by omega) (fun o => by have := hO1 _ o; omega)]; exact q2
     have p3 : g3 (0 + 1 + 1 + 1) = some ⟨[[.int .i64 0, .int .i64 0, .int .i64 0, .int .i64 0]], 4, 60⟩ := by rw [x2 (0 + 1 + 1 + 1) (by omega) (fun o => by have := hO1 _ o; omega)]; exact q3
     have kid2 : g3 m1 = some ⟨[[.int .i64 (doT (exT t now) r).1.tm, .int .i64 (doT (exT t now) r).1.nx, Sl2, Ss2]], 4, 35⟩ := T2.kid
     have ks2 : IsZ g3 Ss2 (t.sn.map Sn.V) 6 115 := by have := T2.ks; rwa [BF] at this
     have kcl2 := T2.kl.cell
     have kcs2 := ks2.cell
     have hlen2 := lenZ ks2
     rw [List.length_map] at hlen2
     have kz2 := fun (h : 0 < t.sn.length) => kZ ks2 (by rw [List.length_map]; exact h)
     have fz2 := fun (h : 0 < t.sn.length) => T2.fs _ (fpZ ks2 (by rw [List.length_map]; exact h))
     have fo3 : idZ Ss2 < m2 ∧ idZ Ss2 ≠ m1 := by
      unfold idZ
      cases hx : fpV Ss2 with
      | none => exact ⟨by show 0 < m2; omega, by show 0 ≠ m1; omega⟩
      | some a => have := T2.fs a hx; exact ⟨this.1, this.2.1⟩
     have fo4 : ∀ a b x, x ∈ srcIds (slZ Ss2 a b) → x < m2 ∧ x ≠ m1 := fun a b x hx => by rw [idsZ _ _ _ x hx]; exact fo3
     have fo2 := fun (h : 0 < t.sn.length) => hO _ (.inr (.inr (.inl (fpZ ks2 (by rw [List.length_map]; exact h)))))
     refine H3 j6 ?_
     (apply D4 (u := .agg [.int _ _, .int _ _, .int _ _, .int _ _]) j3; exact Q0; exact C7; rfl; rfl; rfl; exact Q8; exact kb; rfl; exact j2)
     refine A3 (A1 (A2 (A0 (C1 (off := 0) (s := 1) (r := false) j3 kz j3 ?_))))
     (apply C5 (v := .int _ _) j2; exact Q0; exact C7; exact j5)
     refine C1 (off := 1) (s := 1) (r := false) j3 kz j3 ?_
     (apply C5 (v := .int _ _) j2; exact Q0; exact C7; exact j5)
     (apply F9 (vs := [.int _ _, .int _ _, .int _ _, .int _ _]) j2; exact Q0; exact C7; rfl; exact kb; rfl; exact j3)
     refine L6 (cs := [.int _ _, .int _ _, .int _ _, .int _ _, .int _ _, .int _ _]) j5 (H3 j6 ?_)
     (apply D4 (u := .agg [.int _ _, .int _ _, .int _ _, .int _ _, .int _ _, .int _ _]) j3; exact Q0; exact C7; rfl; rfl; rfl; exact Q8; exact kb; rfl; exact j2)
     refine A3 (A1 (A2 (A2 (A0 (C4 j5 (A3 (A1 (wF rfl (C2 [0, 0, 2, 0, 14, 31, 0, 64, 255, 0, 512, 0, 3584, 8191, 16383, 32767] rfl (by decide +kernel) ?_)))))))))
     refine dbs (es := []) j4 kz kb rfl rfl j3 (D6 (off := 3) (s := 1) (r := false) j3 kz j3 ?_)
     (apply E1 (v := Ss2) j2; exact Q0; rfl; exact j5)
     refine I0 j5 ?_
     (refine d0 (P5 (v := Ss2) j3 (ks2.mono (fun a ha => by have q := T2.fs a ha; have qa := q.1; have qb := q.2.1; have qc := hO a (.inr (.inr (.inl ha))); (simp (disch := (first | omega | assumption)) only [↓appC, ↓updN, ↓updS, ↓app0]))) rfl (by first | rfl | (rw [List.length_map]; rfl)) (by omega) (by first | omega | (rw [List.length_map]; omega)) (by first | omega | (rw [List.length_map]; omega))) rfl rfl rfl ?_)
     (apply dap (s' := 48)  rfl rfl; exact Q0; exact j2; exact Q31; exact j2; exact kz; exact Q18; exact Q26; exact Q12; exact Q12; exact j3)
     (apply L8 (vs := [.int _ _, .int _ _, .int _ _, .int _ _, .int _ _, .int _ _]) j2; exact Q0; exact C7; rfl; exact kb; exact j4)
     refine dbs (es := [[.int _ _, .int _ _, .int _ _, .int _ _, .int _ _, .int _ _]]) j4 kz kb rfl rfl j3 ?_
     (apply dap (s' := 48) (es := [[.int _ _, .int _ _, .int _ _, .int _ _, .int _ _, .int _ _]]) rfl rfl; exact Q0; exact j2; exact Q31; exact j2; exact kz; exact Q18; exact Q26; exact Q12; exact Q12; exact j3)
     refine D6 (off := 3) (s := 1) (r := false) j3 kz j3 ?_
     (apply E1 (v := Ss2) j2; exact Q0; rfl; exact j5)
     refine I0 j5 ?_
     (refine d0 (P5 (v := Ss2) j3 (ks2.mono (fun a ha => by have q := T2.fs a ha; have qa := q.1; have qb := q.2.1; have qc := hO a (.inr (.inr (.inl ha))); (simp (disch := (first | omega | assumption)) only [↓appC, ↓updN, ↓updS, ↓app0]))) rfl (by first | rfl | (rw [List.length_map]; rfl)) (by omega) (by first | omega | (rw [List.length_map]; omega)) (by first | omega | (rw [List.length_map]; omega))) rfl rfl rfl ?_)
     (apply dap (s' := 48)  rfl rfl; exact Q0; exact j2; exact Q31; exact j2; exact kz; exact Q18; exact Q26; exact Q12; exact Q12; exact j3)
     refine D6 (off := 3) (s := 1) (r := false) j3 kz j3 ?_
     (apply dst (u := .view _ _ _) rfl rfl rfl; exact Q0; exact C7; rfl; rfl; rfl; exact Q8; exact kb; rfl; rfl; rfl)
     refine B1 16 [3, 0, 3, 1, 0, 1, 0, 3, 3, 1, 3, 1, 0, 1, 0, 3] [(0, 2), (0, 4), (0, 6), (5, 6), (0, 7), (2, 7), (4, 7), (5, 7), (0, 10), (5, 10), (7, 10), (8, 10), (0, 12), (5, 12), (7, 12), (8, 12)] j2 (by decide +kernel) ?_ ?_
     ·(first | (focus (simp [ClearL, ids]; done)) | (focus (simp [ClearL, ids]; omega)) | (simp [ClearL, ids, Env.eval, upd]; (repeat' (first | omega | (intro hx; have := fo4 _ _ _ hx; omega) | apply And.intro))))
     refine A1 (A2 (C2 [0, 0, 1, 7] rfl (by decide +kernel) ?_))
     (apply L8 (vs := [.int _ _, .int _ _, _, _]) j2; exact Q0; exact C7; rfl; exact kb; exact j4)
     (apply L8 (vs := [.int _ _, .int _ _, .int _ _, .int _ _]) j2; exact Q0; exact C7; rfl; exact kb; exact j4)
     (apply dst (u := .agg [.int _ _, .int _ _, _, _]) rfl rfl rfl; exact Q0; exact C7; rfl; rfl; rfl; exact Q8; exact kb; rfl; rfl; rfl)
     (apply dst (u := .agg [.int _ _, .int _ _, .int _ _, .int _ _]) rfl rfl rfl; exact Q0; exact C7; rfl; rfl; rfl; exact Q8; exact kb; rfl; rfl; rfl)
     refine B1 4 [3, 3, 1, 1] [(1, 2)] j2 (by decide +kernel) ?_ ?_
     ·(first | (focus (simp [ClearL, ids]; done)) | (focus (simp [ClearL, ids]; omega)) | (simp [ClearL, ids, Env.eval, upd]; (repeat' (first | omega | (intro hx; have := fo4 _ _ _ hx; omega) | apply And.intro))))
     refine A1 (A9 ?_)
     first
     | (have hthere := hsn ⟨by omega, by omega⟩
        obtain ⟨sb, esb, ksb⟩ := ks2.some (by rw [List.length_map]; omega)
        rw [List.length_map] at esb
        have eid : idZ Ss2 = sb := by rw [esb]; rfl
        have fsb : fpV Ss2 = some (idZ Ss2) := by rw [esb]; rfl
        have fzA := fz2 (by omega)
        have fzB := fo2 (by omega)
        have e : rqT t now r = (⟨(doT (exT t now) r).1.tm, (doT (exT t now) r).1.nx, (doT (exT t now) r).1.lk, t.sn.set i ⟨r.cl, r.st, (doT (exT t now) r).2⟩⟩, (doT (exT t now) r).2) := by
          unfold rqT; rw [U5 (t := exT t now) hthere (by show ¬ (t.sn.getD (snP r.cl t.sn) Sn0).st = r.st; rw [hp]; exact h6_10) (by show ¬ (t.sn.getD (snP r.cl t.sn) Sn0).st > r.st; rw [hp]; exact h8_10)]
          show (Tb.mk _ _ _ (t.sn.set (snP r.cl t.sn) _), _) = _; rw [hp]
        rw [e]
        refine P9 (tabIds Sl2 Ss2 W2 (doT (exT t now) r).1.lk.length) (A5 (A7 rfl (by exact Q0) j2 kb rfl) (A5 (A7 rfl (by exact Q0) j2 kb rfl) A8)) ?_
        refine SnapL.cons _ _ _ _ (H2 (t := ⟨(doT (exT t now) r).1.tm, (doT (exT t now) r).1.nx, (doT (exT t now) r).1.lk, t.sn.set i ⟨r.cl, r.st, (doT (exT t now) r).2⟩⟩) ?_ ?_ (fun j hj => ?_) (fun a ha => ha)) (SnapL.cons _ _ _ _ (SnapC.agg (.cons _ _ _ _ (.int _ _) (.cons _ _ _ _ (.int _ _) (.cons _ _ _ _ (.int _ _) (.cons _ _ _ _ (.int _ _) .nil))))) SnapL.nil)
        focus (exact T2.kl.mono (fun a ha => by have q := hO a (.inr (.inl ha)); have q9 := T2.lt (a := a) (.inr (.inl ha)); have q8 : a ≠ idZ Ss2 := fun e => fzA.2.2 (by rw [← e]; exact ha); have q7 : a ≠ m1 := (T2.fl a ha).2; (simp (disch := (first | omega | assumption)) only [↓appC, ↓updN, ↓updS, ↓app0])))
        rotate_left
        focus (exact (T2.kw j hj).mono (fun a ha => by have q := hO a (.inr (.inr (.inr ⟨j, hj, ha⟩))); have q9 := T2.lt (a := a) (.inr (.inr (.inr ⟨j, hj, ha⟩))); have q8 : a ≠ idZ Ss2 := fun e => (T2.fw j a hj ha).2.2.2.1 (by rw [e]; exact fsb); have q7 : a ≠ m1 := (T2.fw j a hj ha).2.1; (simp (disch := (first | omega | assumption)) only [↓appC, ↓updN, ↓updS, ↓app0])))
        refine .inr ⟨idZ Ss2, by rw [List.length_map, List.length_set, eid]; exact esb, ?_⟩
        (simp (disch := (first | omega | assumption)) only [↓appC, ↓updN, ↓updS, ↓app0])
        exact congrArg (fun z => some (Blk.mk z 6 115)) (by rw [List.map_set]; rfl))
     | (have hnot := (show ¬ snH r.cl t.sn by unfold snH; rw [hp]; intro hx; have hx1 := hx.1; have hx2 := hx.2; omega)
        have e : rqT t now r = (⟨(doT (exT t now) r).1.tm, (doT (exT t now) r).1.nx, (doT (exT t now) r).1.lk, insL t.sn i ⟨r.cl, r.st, (doT (exT t now) r).2⟩⟩, (doT (exT t now) r).2) := by
          unfold rqT; rw [X6 (t := exT t now) hnot (by show ¬ t.sn.length = 6; omega)]
          show (Tb.mk _ _ _ (insL t.sn (snP r.cl t.sn) _), _) = _; rw [hp]
        rw [e]
        refine P9 (tabIds Sl2 (.view (m2 + 1 + 1 + 1 + 1 + 1 + 1) 0 0) W2 (doT (exT t now) r).1.lk.length) (A5 (A7 rfl (by exact Q0) j2 kb rfl) (A5 (A7 rfl (by exact Q0) j2 kb rfl) A8)) ?_
        refine SnapL.cons _ _ _ _ (H2 (t := ⟨(doT (exT t now) r).1.tm, (doT (exT t now) r).1.nx, (doT (exT t now) r).1.lk, insL t.sn i ⟨r.cl, r.st, (doT (exT t now) r).2⟩⟩) ?_ ?_ (fun j hj => ?_) (fun a ha => ha)) (SnapL.cons _ _ _ _ (SnapC.agg (.cons _ _ _ _ (.int _ _) (.cons _ _ _ _ (.int _ _) (.cons _ _ _ _ (.int _ _) (.cons _ _ _ _ (.int _ _) .nil))))) SnapL.nil)
        focus (exact T2.kl.mono (fun a ha => by have q := hO a (.inr (.inl ha)); have q9 := T2.lt (a := a) (.inr (.inl ha)); have q7 : a ≠ m1 := (T2.fl a ha).2; (simp (disch := (first | omega | assumption)) only [↓appC, ↓updN, ↓updS, ↓app0])))
        rotate_left
        focus (exact (T2.kw j hj).mono (fun a ha => by have q := hO a (.inr (.inr (.inr ⟨j, hj, ha⟩))); have q9 := T2.lt (a := a) (.inr (.inr (.inr ⟨j, hj, ha⟩))); have q7 : a ≠ m1 := (T2.fw j a hj ha).2.1; (simp (disch := (first | omega | assumption)) only [↓appC, ↓updN, ↓updS, ↓app0])))
        refine .inr ⟨m2 + 1 + 1 + 1 + 1 + 1 + 1, congrArg (V.view _ 0) ((insLen2 (List.length_map ..) hI.1).trans (by rw [List.length_map, I5 hI.1])), ?_⟩
        (simp (disch := (first | omega | assumption)) only [↓appC, ↓updN, ↓updS, ↓app0])
        exact congrArg (fun z => some (Blk.mk z 6 115)) ((BG (by rw [List.length_map]; exact hI.1) rfl).trans (BO Sn.V t.sn i ⟨r.cl, r.st, (doT (exT t now) r).2⟩).symm))
 ·refine H8 j5 (A6 j3 (A6 j3 (A6 j3 (A6 j3 (A6 j3 (A6 j3 (A6 j3 (A6 j3 (A6 j3 (G5 (e := false) j6 (B1 16 [0, 0, 0, 0, 0, 0, 0, 0, 0, 0, 0, 0, 0, 1, 0, 0] [] j2 (by decide +kernel) trivial ?_)))))))))))
  refine A1 (wF rfl (E5 (E6 (D7 (C8 (A1 (A2 ?_)))))))
  have hp : snP r.cl t.sn = i := by
   first
   | exact Y9 hI.1 hI.2 (fun _ => h3_14)
   | exact Y9 hI.1 hI.2 (fun h => absurd h (by omega))
  refine C2 [0, 0, 2, 6, 15, 31, 63, 127, 63, 511, 1023, 2047, 63, 4159, 16383, 32767, 65535] rfl (by decide +kernel) ?_
  refine I0 j5 (D6 (off := 3) (s := 1) (r := false) j3 kz j3 ?_)
  (apply E1 (v := Ss1) j2; exact Q0; rfl; exact j5)
  (refine dll rfl rfl hlen1 j3 ?_)
  refine dlt j6 (fun h => absurd h (by omega)) ?_
  intro h5_4
  refine H8 j5 (A6 j3 (A6 j3 (A6 j3 (A6 j3 (A6 j3 (A6 j3 (A6 j3 (A6 j3 (A6 j3 (G5 (e := false) j6 (K3 j5 (B1 17 [0, 0, 0, 0, 0, 0, 0, 0, 0, 0, 0, 0, 0, 0, 1, 0, 0] [] j2 (by decide +kernel) trivial ?_))))))))))))
  refine A1 (A2 (B3 (A2 ?_)))
  have hcase : (i < t.sn.length ∧ (t.sn.getD i Sn0).cl = r.cl ∧ snH r.cl t.sn) ∨ (¬ snH r.cl t.sn) := by
   by_cases hs : snH r.cl t.sn
   ·left; have h1 := hs.1; have h2 := hs.2; rw [hp] at h1 h2; exact ⟨h1, h2, hs⟩
   ·exact .inr hs
  have hsn : (i < t.sn.length ∧ (t.sn.getD i Sn0).cl = r.cl) → snH r.cl t.sn := fun h => by unfold snH; rw [hp]; exact h
  refine C2 [0, 1, 3, 7, 3, 31, 63, 127, 3, 259, 1023, 2047, 4095] rfl (by decide +kernel) ?_
  refine H8 j5 (H8 j5 (A6 j3 (A6 j3 (A6 j3 (A6 j3 (A6 j3 (A6 j3 (A6 j3 (A6 j3 (A6 j3 (G5 (e := false) j6 (K3 j5 ?_))))))))))))
  refine B1 13 [0, 0, 0, 0, 0, 0, 0, 0, 0, 0, 0, 0, 0] [] j2 (by decide +kernel) trivial ?_
  refine A1 (wF rfl (A2 (C2 [0, 1, 3, 7, 3, 31, 63, 127, 3, 259, 1023, 2047, 4095] rfl (by decide +kernel) ?_)))
  refine H8 j5 (H8 j5 (A6 j3 (A6 j3 (A6 j3 (A6 j3 (A6 j3 (A6 j3 (A6 j3 (A6 j3 (A6 j3 (G5 (e := false) j6 (K3 j5 ?_))))))))))))
  refine B1 13 [0, 0, 0, 0, 0, 0, 0, 0, 0, 0, 0, 0, 0] [] j2 (by decide +kernel) trivial ?_
  refine A1 (wF rfl (A2 (A0 (C4 j5 (D5 (c := false) j5 (C4 j5 (C1 (off := 3) (s := 1) (r := false) j3 kz j3 ?_)))))))
  (apply C5 (v := Ss1) j2; exact Q0; rfl; exact j5)
  (refine H0 rfl rfl hlen1 j3 ?_)
  refine H5 j6 ?_ ?_ <;> intro h10_6
  ·refine C0 (e := true) j6 (C6 j5 (A3 (A1 (wT rfl (A2 (A0 ?_))))))
   (apply F9 (vs := [.int .i64 (exT t now).tm, .int .i64 (exT t now).nx, Sl1, Ss1]) j2; exact Q0; rfl; rfl; exact kb; rfl; exact j3)
   refine L6 (cs := [.int _ _, .int _ _, .int _ _, .int _ _]) j5 ?_
   (apply D4 (u := .agg [.int _ _, .int _ _, _, _]) j3; exact Q0; exact C7; rfl; rfl; rfl; exact Q8; exact kb; rfl; exact j2)
   (apply D4 (u := .agg [.int _ _, .int _ _, .int _ _, .int _ _]) j3; exact Q0; exact C7; rfl; rfl; rfl; exact Q8; exact kb; rfl; exact j2)
   refine A3 (A1 (A9 (B4 (B2 ?_))))
   have e : rqT t now r = (exT t now, bareA 6) := by
    unfold rqT; exact Y6 (t := exT t now) (show ¬ snH r.cl t.sn by unfold snH; rw [hp]; intro hx; have hx1 := hx.1; have hx2 := hx.2; omega) (by show t.sn.length = 6; omega)
   rw [e]
   refine P9 (tabIds Sl1 Ss1 W1 (exT t now).lk.length) (A5 (A7 rfl (by exact Q0) j2 kb rfl) (A5 (A7 rfl (by exact Q0) j2 kb rfl) A8)) ?_
   refine SnapL.cons _ _ _ _ (H2 (t := exT t now) ?_ ?_ (fun j hj => ?_) (fun a ha => ha)) (SnapL.cons _ _ _ _ (SnapC.agg (.cons _ _ _ _ (.int _ _) (.cons _ _ _ _ (.int _ _) (.cons _ _ _ _ (.int _ _) (.cons _ _ _ _ (.int _ _) .nil))))) SnapL.nil)
   ·exact T1.kl.mono (fun a ha => by have q := hP1 a (.inr (.inl ha)); (simp (disch := (first | omega | assumption)) only [↓appC, ↓updN, ↓updS, ↓app0]))
   ·exact T1.ks.mono (fun a ha => by have q := hP1 a (.inr (.inr (.inl ha))); (simp (disch := (first | omega | assumption)) only [↓appC, ↓updN, ↓updS, ↓app0]))
   ·exact (T1.kw j hj).mono (fun a ha => by have q := hP1 a (.inr (.inr (.inr ⟨j, hj, ha⟩))); (simp (disch := (first | omega | assumption)) only [↓appC, ↓updN, ↓updS, ↓app0]))
  ·refine C0 (e := false) j6 (C6 j5 (A3 (A1 (wF rfl (B0 (B7 (A1 (A2 (A0 ?_)))))))))
   (apply F9 (vs := [.int _ _, .int _ _, .int _ _, .int _ _, .str _]) j2; exact Q0; exact C7; rfl; exact kb; rfl; exact j3)
   refine K9 (o106 (exT t now) r bq.bd hhd2 T1 hkd) rfl j5 ?_
   rintro _ g3 m2 ⟨rfl, S2⟩ hc2 hl2
   obtain ⟨Sl2, Ss2, W2, T2, x1, x2, x3⟩ := S2
   have hO1 : ∀ a, OwnT m1 Sl1 Ss1 W1 (exT t now).lk.length a → 4 ≤ a := fun a o => by have := TV.ownM a o; omega
   have hO : ∀ a, OwnT m1 Sl2 Ss2 W2 (doT (exT t now) r).1.lk.length a → 4 ≤ a := fun a o => (x1 a o).elim (fun e => hO1 a e) (fun e => by omega)
   have p1 : g3 (0 + 1) = some ⟨[[.int .i64 r.cl, .int .i64 r.st, .int .i64 r.kd, .int .i64 r.le, .str r.nm]], 5, 64⟩ := by rw [x2 (0 + 1) (by omega) (fun o => by have := hO1 _ o; omega)]; exact q1
   have p2 : g3 (0 + 1 + 1) = some ⟨[[.int .i64 0, .int .i64 0, .nsl, .nsl]], 4, 35⟩ := by rw [x2 (0 + 1 + 1) (by omega) (fun o => by have := hO1 _ o; omega)]; exact q2
   have p3 : g3 (0 + 1 + 1 + 1) = some ⟨[[.int .i64 0, .int .i64 0, .int .i64 0, .int .i64 0]], 4, 60⟩ := by rw [x2 (0 + 1 + 1 + 1) (by omega) (fun o => by have := hO1 _ o; omega)]; exact q3
   have kid2 : g3 m1 = some ⟨[[.int .i64 (doT (exT t now) r).1.tm, .int .i64 (doT (exT t now) r).1.nx, Sl2, Ss2]], 4, 35⟩ := T2.kid
   have ks2 : IsZ g3 Ss2 (t.sn.map Sn.V) 6 115 := by have := T2.ks; rwa [BF] at this
   have kcl2 := T2.kl.cell
   have kcs2 := ks2.cell
   have hlen2 := lenZ ks2
   rw [List.length_map] at hlen2
   have kz2 := fun (h : 0 < t.sn.length) => kZ ks2 (by rw [List.length_map]; exact h)
   have fz2 := fun (h : 0 < t.sn.length) => T2.fs _ (fpZ ks2 (by rw [List.length_map]; exact h))
   have fo3 : idZ Ss2 < m2 ∧ idZ Ss2 ≠ m1 := by
    unfold idZ
    cases hx : fpV Ss2 with
    | none => exact ⟨by show 0 < m2; omega, by show 0 ≠ m1; omega⟩
    | some a => have := T2.fs a hx; exact ⟨this.1, this.2.1⟩
   have fo4 : ∀ a b x, x ∈ srcIds (slZ Ss2 a b) → x < m2 ∧ x ≠ m1 := fun a b x hx => by rw [idsZ _ _ _ x hx]; exact fo3
   have fo2 := fun (h : 0 < t.sn.length) => hO _ (.inr (.inr (.inl (fpZ ks2 (by rw [List.length_map]; exact h)))))
   refine H3 j6 ?_
   (apply D4 (u := .agg [.int _ _, .int _ _, .int _ _, .int _ _]) j3; exact Q0; exact C7; rfl; rfl; rfl; exact Q8; exact kb; rfl; exact j2)
   refine A3 (A1 (A2 (A0 (C1 (off := 0) (s := 1) (r := false) j3 kz j3 ?_))))
   (apply C5 (v := .int _ _) j2; exact Q0; exact C7; exact j5)
   refine C1 (off := 1) (s := 1) (r := false) j3 kz j3 ?_
   (apply C5 (v := .int _ _) j2; exact Q0; exact C7; exact j5)
   (apply F9 (vs := [.int _ _, .int _ _, .int _ _, .int _ _]) j2; exact Q0; exact C7; rfl; exact kb; rfl; exact j3)
   refine L6 (cs := [.int _ _, .int _ _, .int _ _, .int _ _, .int _ _, .int _ _]) j5 (H3 j6 ?_)
   (apply D4 (u := .agg [.int _ _, .int _ _, .int _ _, .int _ _, .int _ _, .int _ _]) j3; exact Q0; exact C7; rfl; rfl; rfl; exact Q8; exact kb; rfl; exact j2)
   refine A3 (A1 (A2 (A2 (A0 (C4 j5 (A3 (A1 (wF rfl (C2 [0, 0, 2, 0, 14, 31, 0, 64, 255, 0, 512, 0, 3584, 8191, 16383, 32767] rfl (by decide +kernel) ?_)))))))))
   refine dbs (es := []) j4 kz kb rfl rfl j3 (D6 (off := 3) (s := 1) (r := false) j3 kz j3 ?_)
   (apply E1 (v := Ss2) j2; exact Q0; rfl; exact j5)
   refine I0 j5 ?_
   (refine d0 (P5 (v := Ss2) j3 (ks2.mono (fun a ha => by have q := T2.fs a ha; have qa := q.1; have qb := q.2.1; have qc := hO a (.inr (.inr (.inl ha))); (simp (disch := (first | omega | assumption)) only [↓appC, ↓updN, ↓updS, ↓app0]))) rfl (by first | rfl | (rw [List.length_map]; rfl)) (by omega) (by first | omega | (rw [List.length_map]; omega)) (by first | omega | (rw [List.length_map]; omega))) rfl rfl rfl ?_)
   (apply dap (s' := 48)  rfl rfl; exact Q0; exact j2; exact Q31; exact j2; exact kz; exact Q18; exact Q26; exact Q12; exact Q12; exact j3)
   (apply L8 (vs := [.int _ _, .int _ _, .int _ _, .int _ _, .int _ _, .int _ _]) j2; exact Q0; exact C7; rfl; exact kb; exact j4)
   refine dbs (es := [[.int _ _, .int _ _, .int _ _, .int _ _, .int _ _, .int _ _]]) j4 kz kb rfl rfl j3 ?_
   (apply dap (s' := 48) (es := [[.int _ _, .int _ _, .int _ _, .int _ _, .int _ _, .int _ _]]) rfl rfl; exact Q0; exact j2; exact Q31; exact j2; exact kz; exact Q18; exact Q26; exact Q12; exact Q12; exact j3)
   refine D6 (off := 3) (s := 1) (r := false) j3 kz j3 ?_
   (apply E1 (v := Ss2) j2; exact Q0; rfl; exact j5)
   refine I0 j5 ?_
   (refine d0 (P5 (v := Ss2) j3 (ks2.mono (fun a ha => by have q := T2.fs a ha; have qa := q.1; have qb := q.2.1; have qc := hO a (.inr (.inr (.inl ha))); (simp (disch := (first | omega | assumption)) only [↓appC, ↓updN, ↓updS, ↓app0]))) rfl (by first | rfl | (rw [List.length_map]; rfl)) (by omega) (by first | omega | (rw [List.length_map]; omega)) (by first | omega | (rw [List.length_map]; omega))) rfl rfl rfl ?_)
   (apply dap (s' := 48)  rfl rfl; exact Q0; exact j2; exact Q31; exact j2; exact kz; exact Q18; exact Q26; exact Q12; exact Q12; exact j3)
   refine D6 (off := 3) (s := 1) (r := false) j3 kz j3 ?_
   (apply dst (u := .view _ _ _) rfl rfl rfl; exact Q0; exact C7; rfl; rfl; rfl; exact Q8; exact kb; rfl; rfl; rfl)
   refine B1 16 [3, 0, 3, 1, 0, 1, 0, 3, 3, 1, 3, 1, 0, 1, 0, 3] [(0, 2), (0, 4), (0, 6), (5, 6), (0, 7), (2, 7), (4, 7), (5, 7), (0, 10), (5, 10), (7, 10), (8, 10), (0, 12), (5, 12), (7, 12), (8, 12)] j2 (by decide +kernel) ?_ ?_
   ·(first | (focus (simp [ClearL, ids]; done)) | (focus (simp [ClearL, ids]; omega)) | (simp [ClearL, ids, Env.eval, upd]; (repeat' (first | omega | (intro hx; have := fo4 _ _ _ hx; omega) | apply And.intro))))
   refine A1 (A2 (C2 [0, 0, 1, 7] rfl (by decide +kernel) ?_))
   (apply L8 (vs := [.int _ _, .int _ _, _, _]) j2; exact Q0; exact C7; rfl; exact kb; exact j4)
   (apply L8 (vs := [.int _ _, .int _ _, .int _ _, .int _ _]) j2; exact Q0; exact C7; rfl; exact kb; exact j4)
   (apply dst (u := .agg [.int _ _, .int _ _, _, _]) rfl rfl rfl; exact Q0; exact C7; rfl; rfl; rfl; exact Q8; exact kb; rfl; rfl; rfl)
   (apply dst (u := .agg [.int _ _, .int _ _, .int _ _, .int _ _]) rfl rfl rfl; exact Q0; exact C7; rfl; rfl; rfl; exact Q8; exact kb; rfl; rfl; rfl)
   refine B1 4 [3, 3, 1, 1] [(1, 2)] j2 (by decide +kernel) ?_ ?_
   ·(first | (focus (simp [ClearL, ids]; done)) | (focus (simp [ClearL, ids]; omega)) | (simp [ClearL, ids, Env.eval, upd]; (repeat' (first | omega | (intro hx; have := fo4 _ _ _ hx; omega) | apply And.intro))))
   refine A1 (A9 ?_)
   first
   | (have hthere := hsn ⟨by omega, by omega⟩
      obtain ⟨sb, esb, ksb⟩ := ks2.some (by rw [List.length_map]; omega)
      rw [List.length_map] at esb
      have eid : idZ Ss2 = sb := by rw [esb]; rfl
      have fsb : fpV Ss2 = some (idZ Ss2) := by rw [esb]; rfl
      have fzA := fz2 (by omega)
      have fzB := fo2 (by omega)
      have e : rqT t now r = (⟨(doT (exT t now) r).1.tm, (doT (exT t now) r).1.nx, (doT (exT t now) r).1.lk, t.sn.set i ⟨r.cl, r.st, (doT (exT t now) r).2⟩⟩, (doT (exT t now) r).2) := by
        unfold rqT; rw [U5 (t := exT t now) hthere (by show ¬ (t.sn.getD (snP r.cl t.sn) Sn0).st = r.st; rw [hp]; exact h6_10) (by show ¬ (t.sn.getD (snP r.cl t.sn) Sn0).st > r.st; rw [hp]; exact h8_10)]
        show (Tb.mk _ _ _ (t.sn.set (snP r.cl t.sn) _), _) = _; rw [hp]
      rw [e]
      refine P9 (tabIds Sl2 Ss2 W2 (doT (exT t now) r).1.lk.length) (A5 (A7 rfl (by exact Q0) j2 kb rfl) (A5 (A7 rfl (by exact Q0) j2 kb rfl) A8)) ?_
      refine SnapL.cons _ _ _ _ (H2 (t := ⟨(doT (exT t now) r).1.tm, (doT (exT t now) r).1.nx, (doT (exT t now) r).1.lk, t.sn.set i ⟨r.cl, r.st, (doT (exT t now) r).2⟩⟩) ?_ ?_ (fun j hj => ?_) (fun a ha => ha)) (SnapL.cons _ _ _ _ (SnapC.agg (.cons _ _ _ _ (.int _ _) (.cons _ _ _ _ (.int _ _) (.cons _ _ _ _ (.int _ _) (.cons _ _ _ _ (.int _ _) .nil))))) SnapL.nil)
      focus (exact T2.kl.mono (fun a ha => by have q := hO a (.inr (.inl ha)); have q9 := T2.lt (a := a) (.inr (.inl ha)); have q8 : a ≠ idZ Ss2 := fun e => fzA.2.2 (by rw [← e]; exact ha); have q7 : a ≠ m1 := (T2.fl a ha).2; (simp (disch := (first | omega | assumption)) only [↓appC, ↓updN, ↓updS, ↓app0])))
      rotate_left
      focus (exact (T2.kw j hj).mono (fun a ha => by have q := hO a (.inr (.inr (.inr ⟨j, hj, ha⟩))); have q9 := T2.lt (a := a) (.inr (.inr (.inr ⟨j, hj, ha⟩))); have q8 : a ≠ idZ Ss2 := fun e => (T2.fw j a hj ha).2.2.2.1 (by rw [e]; exact fsb); have q7 : a ≠ m1 := (T2.fw j a hj ha).2.1; (simp (disch := (first | omega | assumption)) only [↓appC, ↓updN, ↓updS, ↓app0])))
      refine .inr ⟨idZ Ss2, by rw [List.length_map, List.length_set, eid]; exact esb, ?_⟩
      (simp (disch := (first | omega | assumption)) only [↓appC, ↓updN, ↓updS, ↓app0])
      exact congrArg (fun z => some (Blk.mk z 6 115)) (by rw [List.map_set]; rfl))
   | (have hnot := (show ¬ snH r.cl t.sn by unfold snH; rw [hp]; intro hx; have hx1 := hx.1; have hx2 := hx.2; omega)
      have e : rqT t now r = (⟨(doT (exT t now) r).1.tm, (doT (exT t now) r).1.nx, (doT (exT t now) r).1.lk, insL t.sn i ⟨r.cl, r.st, (doT (exT t now) r).2⟩⟩, (doT (exT t now) r).2) := by
        unfold rqT; rw [X6 (t := exT t now) hnot (by show ¬ t.sn.length = 6; omega)]
        show (Tb.mk _ _ _ (insL t.sn (snP r.cl t.sn) _), _) = _; rw [hp]
      rw [e]
      refine P9 (tabIds Sl2 (.view (m2 + 1 + 1 + 1 + 1 + 1 + 1) 0 0) W2 (doT (exT t now) r).1.lk.length) (A5 (A7 rfl (by exact Q0) j2 kb rfl) (A5 (A7 rfl (by exact Q0) j2 kb rfl) A8)) ?_
      refine SnapL.cons _ _ _ _ (H2 (t := ⟨(doT (exT t now) r).1.tm, (doT (exT t now) r).1.nx, (doT (exT t now) r).1.lk, insL t.sn i ⟨r.cl, r.st, (doT (exT t now) r).2⟩⟩) ?_ ?_ (fun j hj => ?_) (fun a ha => ha)) (SnapL.cons _ _ _ _ (SnapC.agg (.cons _ _ _ _ (.int _ _) (.cons _ _ _ _ (.int _ _) (.cons _ _ _ _ (.int _ _) (.cons _ _ _ _ (.int _ _) .nil))))) SnapL.nil)
      focus (exact T2.kl.mono (fun a ha => by have q := hO a (.inr (.inl ha)); have q9 := T2.lt (a := a) (.inr (.inl ha)); have q7 : a ≠ m1 := (T2.fl a ha).2; (simp (disch := (first | omega | assumption)) only [↓appC, ↓updN, ↓updS, ↓app0])))
      rotate_left
      focus (exact (T2.kw j hj).mono (fun a ha => by have q := hO a (.inr (.inr (.inr ⟨j, hj, ha⟩))); have q9 := T2.lt (a := a) (.inr (.inr (.inr ⟨j, hj, ha⟩))); have q7 : a ≠ m1 := (T2.fw j a hj ha).2.1; (simp (disch := (first | omega | assumption)) only [↓appC, ↓updN, ↓updS, ↓app0])))
      refine .inr ⟨m2 + 1 + 1 + 1 + 1 + 1 + 1, congrArg (V.view _ 0) ((insLen2 (List.length_map ..) hI.1).trans (by rw [List.length_map, I5 hI.1])), ?_⟩
      (simp (disch := (first | omega | assumption)) only [↓appC, ↓updN, ↓updS, ↓app0])
      exact congrArg (fun z => some (Blk.mk z 6 115)) ((BG (by rw [List.length_map]; exact hI.1) rfl).trans (BO Sn.V t.sn i ⟨r.cl, r.st, (doT (exT t now) r).2⟩).symm))
open Go.V
set_option linter.unusedVariables false
set_option linter.unusedSimpArgs false
set_option maxRecDepth 20000
set_option maxHeartbeats 4000000
theorem exF_nm (tm nx : Int) (l : Lk) : (exF tm nx l).nm = l.nm := by
 unfold exF
 split
 ·cases l.ws <;> rfl
 ·rfl
theorem exF_hd {tm nx : Int} {l : Lk} (h : -1 ≤ l.hd) (hw : ∀ i, i < l.ws.length → 0 ≤ (l.ws.getD i (0, 0)).1) : -1 ≤ (exF tm nx l).hd := by
 unfold exF
 split
 ·cases hl : l.ws with
  | nil => exact Int.le_refl _
  | cons a r => have := hw 0 (by rw [hl]; simp); rw [hl] at this; simp at this; show -1 ≤ a.1; omega
 ·exact h
theorem exF_tail (tm nx : Int) (l : Lk) : (exF tm nx l).ws = l.ws ∨ ∃ a, l.ws = a :: (exF tm nx l).ws := by
 unfold exF
 split
 ·cases l.ws with
  | nil => exact .inl rfl
  | cons a r => exact .inr ⟨a, rfl⟩
 ·exact .inl rfl
theorem Y7 (tm nx : Int) : ∀ L : List Lk, nx ≤ nxL tm nx L ∧ nxL tm nx L ≤ nx + L.length
 | [] => by unfold nxL; simp
 | l :: r => by
  unfold nxL
  have h1 := Y7 tm (exN tm nx l) r
  have h2 := exN_bd2 (tm := tm) (nx := nx) (l := l)
  simp only [List.length_cons]
  omega
theorem Bq.of {t : Tb} {now : Int} {r : Rq} (ht : t.OK) (hr : r.OK) (hn : 0 ≤ now ∧ now ≤ 1000000000) (hx : t.nx ≤ 999900) : Bq t now r := by
 obtain ⟨h1, h2, h3, h4, h5, h6⟩ := ht
 have hL : (exT t now).lk.length = t.lk.length := N3 _ _ _
 have hg : ∀ i, i < t.lk.length → (exT t now).lk.getD i Lk0 = exF (max t.tm now) (nxL (max t.tm now) t.nx (t.lk.take i)) (t.lk.getD i Lk0) := fun i hi => L2 hi
 have hws : ∀ i, i < t.lk.length → ∀ k, k < (t.lk.getD i Lk0).ws.length → 1 ≤ ((t.lk.getD i Lk0).ws.getD k (0, 0)).2 ∧ ((t.lk.getD i Lk0).ws.getD k (0, 0)).2 ≤ 1000 := fun i hi k hk => ((h5 i hi).1.2.2.2.2.2.2 k hk).2.2.1
 refine ⟨⟨fun i h0 h => ?_, by omega, fun i hi => ?_, fun j hj i hi => ?_, ?_, ?_, hr.1, hr.2.2.2.1⟩, ?_, by omega, by omega, hws, fun j hj => (h6 j hj).1.1, fun i h0 hi => (h6 i hi).2 h0, h4⟩
 ·rw [hL] at h
  have := (h5 i h).2 h0
  unfold lnm
  rw [hg i h, hg (i - 1) (by omega), exF_nm, exF_nm]
  exact this
 ·rw [hL] at hi
  rw [hg i hi]
  have := (h5 i hi).1.2.2.2.2.1
  rcases exF_tail (max t.tm now) (nxL (max t.tm now) t.nx (t.lk.take i)) (t.lk.getD i Lk0) with e | ⟨a, e⟩
  ·rw [e]; exact this
  ·rw [e, List.length_cons] at this; omega
 ·rw [hL] at hj
  rw [hg j hj] at hi ⊢
  rcases exF_tail (max t.tm now) (nxL (max t.tm now) t.nx (t.lk.take j)) (t.lk.getD j Lk0) with e | ⟨a, e⟩
  ·rw [e] at hi ⊢; exact hws j hj i hi
  ·have := hws j hj (i + 1) (by rw [e, List.length_cons]; omega)
   rw [e] at this
   simpa using this
 ·show 0 ≤ max t.tm now ∧ max t.tm now ≤ 1000000000; omega
 ·have := Y7 (max t.tm now) t.nx t.lk
  show 0 ≤ nxL (max t.tm now) t.nx t.lk ∧ nxL (max t.tm now) t.nx t.lk ≤ 999990
  omega
 ·omega
theorem OK.hd {t : Tb} (ht : t.OK) : ∀ i, i < t.lk.length → -1 ≤ (t.lk.getD i Lk0).hd := fun i hi => (ht.2.2.2.2.1 i hi).1.2.2.1.1
theorem OK.w4 {t : Tb} (ht : t.OK) : ∀ i, i < t.lk.length → (t.lk.getD i Lk0).ws.length ≤ 100 := fun i hi => by have := (ht.2.2.2.2.1 i hi).1.2.2.2.2.1; omega
theorem OK.hdE {t : Tb} (ht : t.OK) (now : Int) : ∀ i, i < (exT t now).lk.length → -1 ≤ ((exT t now).lk.getD i Lk0).hd := fun i hi => by
 have hL : (exT t now).lk.length = t.lk.length := N3 _ _ _
 rw [hL] at hi
 rw [show (exT t now).lk.getD i Lk0 = exF (max t.tm now) (nxL (max t.tm now) t.nx (t.lk.take i)) (t.lk.getD i Lk0) from L2 hi]
 exact exF_hd (OK.hd ht i hi) (fun k hk => ((ht.2.2.2.2.1 i hi).1.2.2.2.2.2.2 k hk).1.1)
def An0 : An := ⟨0, 0, 0, 0⟩
noncomputable def apA (t : Tb) (now : Int) (r : Rq) : Tb × An × Int := if ¬ (t.OK ∧ r.OK) then (T0, An0, 1) else if ¬ (0 ≤ now ∧ now ≤ 1000000000) then (T0, An0, 4) else if t.nx > 999000 then (t, An0, 13) else ((rqT t now r).1, (rqT t now r).2, 0)
theorem N5 {t : Tb} {now : Int} {r : Rq} (h : ¬ (t.OK ∧ r.OK)) : apA t now r = (T0, An0, 1) := if_pos h
theorem AI {t : Tb} {now : Int} {r : Rq} (h : t.OK ∧ r.OK) (h1 : ¬ (0 ≤ now ∧ now ≤ 1000000000)) : apA t now r = (T0, An0, 4) := by unfold apA; rw [if_neg (fun e => e h), if_pos h1]
theorem X7 {t : Tb} {now : Int} {r : Rq} (h : t.OK ∧ r.OK) (h1 : 0 ≤ now ∧ now ≤ 1000000000) (h2 : t.nx > 999000) : apA t now r = (t, An0, 13) := by unfold apA; rw [if_neg (fun e => e h), if_neg (fun e => e h1), if_pos h2]
theorem BH {t : Tb} {now : Int} {r : Rq} (h : t.OK ∧ r.OK) (h1 : 0 ≤ now ∧ now ≤ 1000000000) (h2 : ¬ t.nx > 999000) : apA t now r = ((rqT t now r).1, (rqT t now r).2, 0) := by unfold apA; rw [if_neg (fun e => e h), if_neg (fun e => e h1), if_neg h2]
theorem TabV.zero (h : Heap) (n0 n : Nat) : TabV T0 .nsl .nsl (fun _ => .nsl) h n0 n :=
 ⟨.inl ⟨rfl, rfl⟩, .inl ⟨rfl, rfl⟩, fun i hi => absurd hi (Nat.not_lt_zero _), fun a h => (by cases h), fun a h => (by cases h), fun i a hi _ => absurd hi (Nat.not_lt_zero _)⟩
open Go.V
set_option linter.unusedVariables false
set_option linter.unusedSimpArgs false
set_option maxRecDepth 20000
set_option maxHeartbeats 4000000
def WsR (hd : Int) (ws : List Wt) : Prop := (∀ x ∈ ws, (0 ≤ x.1 ∧ x.1 ≤ 255) ∧ x.1 ≠ hd ∧ 1 ≤ x.2 ∧ x.2 ≤ 1000) ∧ ws.Pairwise (fun a b => a.1 ≠ b.1)
theorem wgetD (ws : List Wt) {i : Nat} (h : i < ws.length) : ws.getD i (0, 0) = ws[i] := by simp [List.getD_eq_getElem?_getD, h]
theorem wOK_iff (l : Lk) : (∀ i, i < l.ws.length → wOK l i) ↔ WsR l.hd l.ws := by
 constructor
 ·intro h
  refine ⟨fun x hx => ?_, ?_⟩
  ·obtain ⟨i, hi, rfl⟩ := List.getElem_of_mem hx
   have q := h i hi
   unfold wOK at q
   rw [wgetD _ hi] at q
   exact ⟨q.1, q.2.1, q.2.2.1⟩
  ·refine List.pairwise_iff_getElem.2 fun i j hi hj hij => ?_
   have q := (h j hj).2.2.2 i hij
   rw [wgetD _ hi, wgetD _ hj] at q
   exact q
 ·rintro ⟨h1, h2⟩ i hi
  unfold wOK
  rw [wgetD _ hi]
  have q := h1 _ (List.getElem_mem hi)
  refine ⟨q.1, q.2.1, q.2.2, fun j hj => ?_⟩
  rw [wgetD _ (by omega)]
  exact List.pairwise_iff_getElem.1 h2 j i (by omega) hi hj
theorem WsR.nil (hd : Int) : WsR hd [] := ⟨fun x hx => absurd hx List.not_mem_nil, .nil⟩
theorem P8 {nx : Int} {l : Lk} (h1 : opName l.nm) (h2 : 0 ≤ l.tk ∧ l.tk ≤ nx - 1) (h3 : -1 ≤ l.hd ∧ l.hd ≤ 255) (h4 : 0 ≤ l.ex ∧ l.ex ≤ 2000000000) (h5 : l.ws.length ≤ 4) (h6 : l.hd = -1 → l.ex = 0 ∧ l.ws.length = 0) (h7 : WsR l.hd l.ws) : l.OK nx := ⟨h1, h2, h3, h4, h5, h6, (wOK_iff l).2 h7⟩
theorem LkOK_ws {nx : Int} {l : Lk} (h : l.OK nx) : WsR l.hd l.ws := (wOK_iff l).1 h.2.2.2.2.2.2
theorem O7 {nx ny : Int} {l : Lk} (h : l.OK nx) (e : nx ≤ ny) : l.OK ny := ⟨h.1, ⟨h.2.1.1, by have := h.2.1.2; omega⟩, h.2.2⟩
theorem frL_nm (tm nx : Int) (l : Lk) : (frL tm nx l).nm = l.nm := by unfold frL; cases l.ws <;> rfl
theorem frL_OK {tm nx : Int} {l : Lk} (h : l.OK nx) (ht : 0 ≤ tm ∧ tm ≤ 1000000000) : (frL tm nx l).OK (frN nx l) ∧ ((frL tm nx l).hd = -1 ∨ tm < (frL tm nx l).ex) := by
 have w := LkOK_ws h
 obtain ⟨h1, h2, h3, h4, h5, h6, _⟩ := h
 unfold frL frN
 cases hl : l.ws with
 | nil =>
  refine ⟨?_, .inl rfl⟩
  rw [if_neg (fun e => e rfl)]
  exact P8 h1 h2 ⟨Int.le_refl _, by show (-1 : Int) ≤ 255; decide⟩ ⟨Int.le_refl _, by show (0 : Int) ≤ 2000000000; decide⟩ (Nat.zero_le _) (fun _ => ⟨rfl, rfl⟩) (WsR.nil _)
 | cons a r =>
  rw [hl] at w h5
  obtain ⟨w1, w2⟩ := w
  have wa := w1 a List.mem_cons_self
  rw [if_pos (List.cons_ne_nil a r)]
  simp only [List.length_cons] at h5
  refine ⟨P8 h1 ⟨by show 0 ≤ nx; omega, by show nx ≤ nx + 1 - 1; omega⟩ ⟨by show -1 ≤ a.1; omega, wa.1.2⟩ ⟨by show 0 ≤ tm + a.2; omega, by show tm + a.2 ≤ _; omega⟩ (by show r.length ≤ 4; omega) (fun e => by have e : a.1 = -1 := e; omega) ⟨fun x hx => ?_, (List.pairwise_cons.1 w2).2⟩, .inr (by show tm < tm + a.2; omega)⟩
  have q := w1 x (List.mem_cons_of_mem _ hx)
  exact ⟨q.1, fun e => (List.pairwise_cons.1 w2).1 x hx e.symm, q.2.2⟩
theorem exF_OK {tm nx : Int} {l : Lk} (h : l.OK nx) (ht : 0 ≤ tm ∧ tm ≤ 1000000000) : (exF tm nx l).OK (exN tm nx l) ∧ ¬ gone tm (exF tm nx l) := by
 by_cases g : gone tm l
 ·rw [exF_fr g, exN_fr g]
  obtain ⟨q1, q2⟩ := frL_OK h ht
  refine ⟨q1, fun e => ?_⟩
  unfold gone at e
  rcases q2 with q | q <;> omega
 ·have e1 : exF tm nx l = l := if_neg g
  have e2 : exN tm nx l = nx := if_neg (fun e => g e.1)
  rw [e1, e2]
  exact ⟨h, g⟩
theorem nxL_app (tm : Int) : ∀ (A B : List Lk) (nx : Int), nxL tm nx (A ++ B) = nxL tm (nxL tm nx A) B
 | [], B, nx => rfl
 | l :: r, B, nx => by show nxL tm (exN tm nx l) (r ++ B) = nxL tm (nxL tm (exN tm nx l) r) B; exact nxL_app tm r B _
theorem BI {tm nx : Int} {L : List Lk} (i : Nat) : nx ≤ nxL tm nx (L.take i) ∧ nxL tm nx (L.take i) ≤ nxL tm nx L := by
 have h1 := (Y7 tm nx (L.take i)).1
 have h2 := (Y7 tm (nxL tm nx (L.take i)) (L.drop i)).1
 rw [← nxL_app, List.take_append_drop] at h2
 exact ⟨h1, h2⟩
structure LR (t : Tb) : Prop where
 tm : 0 ≤ t.tm ∧ t.tm ≤ 1000000000
 nx : 1 ≤ t.nx
 l4 : t.lk.length ≤ 4
 ok : ∀ i, i < t.lk.length → (t.lk.getD i Lk0).OK t.nx
 srt : Srt t.lk
 ng : ∀ i, i < t.lk.length → ¬ gone t.tm (t.lk.getD i Lk0)
theorem LR.ex {t : Tb} {now : Int} (h : t.OK) (hn : 0 ≤ now ∧ now ≤ 1000000000) : LR (exT t now) := by
 obtain ⟨h1, h2, h3, h4, h5, h6⟩ := h
 have hL : (exT t now).lk.length = t.lk.length := N3 _ _ _
 have hg : ∀ i, i < t.lk.length → (exT t now).lk.getD i Lk0 = exF (max t.tm now) (nxL (max t.tm now) t.nx (t.lk.take i)) (t.lk.getD i Lk0) := fun i hi => L2 hi
 have hT : 0 ≤ max t.tm now ∧ max t.tm now ≤ 1000000000 := by omega
 have key : ∀ i, i < t.lk.length → (exF (max t.tm now) (nxL (max t.tm now) t.nx (t.lk.take i)) (t.lk.getD i Lk0)).OK (nxL (max t.tm now) t.nx t.lk) ∧ ¬ gone (max t.tm now) (exF (max t.tm now) (nxL (max t.tm now) t.nx (t.lk.take i)) (t.lk.getD i Lk0)) := fun i hi => by
  obtain ⟨q1, q2⟩ := exF_OK (tm := max t.tm now) (O7 (h5 i hi).1 (BI (tm := max t.tm now) (L := t.lk) i).1) hT
  refine ⟨O7 q1 ?_, q2⟩
  rw [← I1 hi]
  exact (BI _).2
 refine ⟨hT, by have := (Y7 (max t.tm now) t.nx t.lk).1; show 1 ≤ nxL (max t.tm now) t.nx t.lk; omega, by rw [hL]; exact h3, fun i hi => ?_, fun i h0 hi => ?_, fun i hi => ?_⟩
 ·rw [hL] at hi; rw [hg i hi]; exact (key i hi).1
 ·rw [hL] at hi
  unfold lnm
  rw [hg i hi, hg (i - 1) (by omega), exF_nm, exF_nm]
  exact (h5 i hi).2 h0
 ·rw [hL] at hi; rw [hg i hi]; exact (key i hi).2
theorem LR.set {t : Tb} (h : LR t) {k : Nat} (hk : k < t.lk.length) {nx : Int} (hx : t.nx ≤ nx) {l : Lk} (hn : l.nm = (t.lk.getD k Lk0).nm) (hl : l.OK nx) (hg : ¬ gone t.tm l) : LR ⟨t.tm, nx, t.lk.set k l, t.sn⟩ := by
 have e : ∀ i, (t.lk.set k l).getD i Lk0 = if i = k then l else t.lk.getD i Lk0 := fun i => BN hk
 have en : ∀ i, lnm (t.lk.set k l) i = lnm t.lk i := fun i => by
  unfold lnm
  rw [e]
  split
  ·next q => rw [hn, q]
  ·rfl
 refine ⟨h.tm, by have := h.nx; show 1 ≤ nx; omega, by show (t.lk.set k l).length ≤ 4; rw [List.length_set]; exact h.l4, fun i hi => ?_, fun i h0 hi => ?_, fun i hi => ?_⟩
 ·have hi : i < (t.lk.set k l).length := hi
  rw [List.length_set] at hi
  show ((t.lk.set k l).getD i Lk0).OK nx
  rw [e]; split
  ·exact hl
  ·exact O7 (h.ok i hi) hx
 ·have hi : i < (t.lk.set k l).length := hi
  rw [List.length_set] at hi
  show ltS (lnm (t.lk.set k l) (i - 1)) (lnm (t.lk.set k l) i)
  rw [en, en]; exact h.srt i h0 hi
 ·have hi : i < (t.lk.set k l).length := hi
  rw [List.length_set] at hi
  show ¬ gone t.tm ((t.lk.set k l).getD i Lk0)
  rw [e]; split
  ·exact hg
  ·exact h.ng i hi
theorem pos_bef (s : ByteArray) : ∀ (L : List Lk) (j : Nat), j < pos s L → ltS (lnm L j) s
 | [], j, h => by simp [pos] at h
 | l :: r, j, h => by
  unfold pos at h
  split at h
  ·next q => cases j with
   | zero => exact q
   | succ j => exact pos_bef s r j (by omega)
  ·exact absurd h (Nat.not_lt_zero _)
theorem pos_at (s : ByteArray) : ∀ (L : List Lk), pos s L < L.length → ¬ ltS (lnm L (pos s L)) s
 | [], h => by simp at h
 | l :: r, h => by
  unfold pos at h ⊢
  split
  ·next q =>
   rw [if_pos q] at h
   exact pos_at s r (by simpa using h)
  ·next q => exact q
theorem lst_tri : ∀ a b : List UInt8, a < b ∨ a = b ∨ b < a
 | [], [] => .inr (.inl rfl)
 | [], b :: s => .inl (List.nil_lt_cons b s)
 | a :: r, [] => .inr (.inr (List.nil_lt_cons a r))
 | a :: r, b :: s => by
  simp only [List.cons_lt_cons_iff]
  rcases Nat.lt_trichotomy a.toNat b.toNat with h | h | h
  ·exact .inl (.inl (UInt8.lt_iff_toNat_lt.2 h))
  ·have e : a = b := UInt8.toNat_inj.1 h
   subst e
   rcases lst_tri r s with q | q | q
   ·exact .inl (.inr ⟨rfl, q⟩)
   ·subst q; exact .inr (.inl rfl)
   ·exact .inr (.inr (.inr ⟨rfl, q⟩))
  ·exact .inr (.inr (.inl (UInt8.lt_iff_toNat_lt.2 h)))
theorem ltS_tri {a b : ByteArray} (h1 : ¬ ltS a b) (h2 : a ≠ b) : ltS b a := by
 have hc : ¬ cb a b < 0 := fun e => h1 (X3.1 e)
 rw [U3] at h1 ⊢
 have hne : ¬ a.data.toList = b.data.toList := fun e => h2 (cb_eq.1 ((cmpL _ _).2.2 e))
 rcases lst_tri a.data.toList b.data.toList with h | h | h
 ·exact absurd h h1
 ·exact absurd h hne
 ·exact h
theorem LR.ins {t : Tb} (h : LR t) {s : ByteArray} (hh : ¬ hit s t.lk) (h3 : t.lk.length ≤ 3) {nx : Int} (hx : t.nx ≤ nx) {l : Lk} (hn : l.nm = s) (hl : l.OK nx) (hg : ¬ gone t.tm l) : LR ⟨t.tm, nx, insL t.lk (pos s t.lk) l, t.sn⟩ := by
 have hp := W6 s t.lk
 have e : ∀ i, (insL t.lk (pos s t.lk) l).getD i Lk0 = if i < pos s t.lk then t.lk.getD i Lk0 else if i = pos s t.lk then l else t.lk.getD (i - 1) Lk0 := fun i => O9 hp i
 have hlen : (insL t.lk (pos s t.lk) l).length = t.lk.length + 1 := I5 hp
 refine ⟨h.tm, by have := h.nx; show 1 ≤ nx; omega, by show (insL t.lk (pos s t.lk) l).length ≤ 4; omega, fun i hi => ?_, fun i h0 hi => ?_, fun i hi => ?_⟩
 ·have hi : i < (insL t.lk (pos s t.lk) l).length := hi
  show ((insL t.lk (pos s t.lk) l).getD i Lk0).OK nx
  rw [e]; split
  ·exact O7 (h.ok i (by omega)) hx
  ·split
   ·exact hl
   ·exact O7 (h.ok (i - 1) (by omega)) hx
 ·have hi : i < (insL t.lk (pos s t.lk) l).length := hi
  show ltS ((insL t.lk (pos s t.lk) l).getD (i - 1) Lk0).nm ((insL t.lk (pos s t.lk) l).getD i Lk0).nm
  rw [e, e]
  by_cases h1 : i < pos s t.lk
  ·rw [if_pos h1, if_pos (by omega)]; exact h.srt i h0 (by omega)
  ·rw [if_neg h1]
   by_cases h2 : i = pos s t.lk
   ·rw [if_pos h2, if_pos (by omega), hn]; exact pos_bef s t.lk (i - 1) (by omega)
   ·rw [if_neg h2, if_neg (by omega)]
    by_cases h4 : i - 1 = pos s t.lk
    ·rw [if_pos h4, hn, h4]
     refine ltS_tri (pos_at s t.lk (by omega)) (fun q => hh ⟨by omega, q⟩)
    ·rw [if_neg h4]; exact h.srt (i - 1) (by omega) (by omega)
 ·have hi : i < (insL t.lk (pos s t.lk) l).length := hi
  show ¬ gone t.tm ((insL t.lk (pos s t.lk) l).getD i Lk0)
  rw [e]; split
  ·exact h.ng i (by omega)
  ·split
   ·exact hg
   ·exact h.ng (i - 1) (by omega)
def DoR (t : Tb) (x : Tb × An) : Prop := LR x.1 ∧ x.1.tm = t.tm ∧ (t.nx ≤ x.1.nx ∧ x.1.nx ≤ t.nx + 1) ∧ x.1.sn = t.sn ∧ ((1 ≤ x.2.kd ∧ x.2.kd ≤ 8) ∧ (0 ≤ x.2.tk ∧ x.2.tk ≤ x.1.nx) ∧ (-1 ≤ x.2.hd ∧ x.2.hd ≤ 255) ∧ (0 ≤ x.2.ex ∧ x.2.ex ≤ 2000000000))
theorem DoR.same {t : Tb} (h : LR t) {a : An} (ha : (1 ≤ a.kd ∧ a.kd ≤ 8) ∧ (0 ≤ a.tk ∧ a.tk ≤ t.nx) ∧ (-1 ≤ a.hd ∧ a.hd ≤ 255) ∧ (0 ≤ a.ex ∧ a.ex ≤ 2000000000)) : DoR t (t, a) := ⟨h, rfl, ⟨Int.le_refl _, by show t.nx ≤ t.nx + 1; omega⟩, rfl, ha⟩
theorem tellR {kd nx : Int} {l : Lk} (h : l.OK nx) (hk : 1 ≤ kd ∧ kd ≤ 8) {ny : Int} (hx : nx ≤ ny) : (1 ≤ (tellL kd l).kd ∧ (tellL kd l).kd ≤ 8) ∧ (0 ≤ (tellL kd l).tk ∧ (tellL kd l).tk ≤ ny) ∧ (-1 ≤ (tellL kd l).hd ∧ (tellL kd l).hd ≤ 255) ∧ (0 ≤ (tellL kd l).ex ∧ (tellL kd l).ex ≤ 2000000000) :=
 ⟨hk, ⟨h.2.1.1, by have := h.2.1.2; show l.tk ≤ ny; omega⟩, h.2.2.1, h.2.2.2.1⟩
theorem bareR {kd nx : Int} (hk : 1 ≤ kd ∧ kd ≤ 8) (hx : 0 ≤ nx) : (1 ≤ (bareA kd).kd ∧ (bareA kd).kd ≤ 8) ∧ (0 ≤ (bareA kd).tk ∧ (bareA kd).tk ≤ nx) ∧ (-1 ≤ (bareA kd).hd ∧ (bareA kd).hd ≤ 255) ∧ (0 ≤ (bareA kd).ex ∧ (bareA kd).ex ≤ 2000000000) :=
 ⟨hk, ⟨Int.le_refl _, hx⟩, ⟨Int.le_refl _, by show (-1 : Int) ≤ 255; decide⟩, ⟨Int.le_refl _, by show (0 : Int) ≤ 2000000000; decide⟩⟩
theorem wix_no {c : Int} : ∀ {ws : List Wt}, ¬ 0 ≤ wix c ws → ∀ x ∈ ws, x.1 ≠ c
 | [], h, x, hx => absurd hx List.not_mem_nil
 | w :: r, h, x, hx => by
  unfold wix at h
  have hg := wix_ge c r
  split at h
  ·omega
  ·next q =>
   have h2 : ¬ 0 ≤ wix c r := by split at h <;> omega
   rcases List.mem_cons.1 hx with e | e
   ·rw [e]; exact q
   ·exact wix_no h2 x e
theorem doT_R {t : Tb} {r : Rq} (h : LR t) (hr : r.OK) : DoR t (doT t r) := by
 have hnx := h.nx
 have htm := h.tm
 have hkd := hr.2.2.1
 have hcl := hr.1
 have hle := hr.2.2.2.1
 have hop := hr.2.2.2.2.1
 have hlk := hr.2.2.2.2.2
 unfold doT
 by_cases k1 : r.kd = 1
 ·rw [if_pos k1]
  have hle1 : 0 < r.le := hlk.2 (.inl k1)
  unfold acqT
  by_cases hh : hit r.nm t.lk
  ·rw [if_pos hh]
   have hk := hh.1
   have hl := h.ok _ hk
   have hg := h.ng _ hk
   unfold acqL
   generalize hlE : t.lk.getD (pos r.nm t.lk) Lk0 = l at hl hg ⊢
   have hw := LkOK_ws hl
   split
   ·exact DoR.same h (tellR hl (by decide) (Int.le_refl _))
   ·next c1 =>
    split
    ·next c2 =>
     have z := hl.2.2.2.2.2.1 c2
     have zw : l.ws = [] := List.length_eq_zero_iff.1 z.2
     refine ⟨h.set hk (by omega) (by rw [hlE]) (P8 hl.1 ⟨by show 0 ≤ t.nx; omega, by show t.nx ≤ t.nx + 1 - 1; omega⟩ ⟨by show -1 ≤ r.cl; omega, hcl.2⟩ ⟨by show 0 ≤ t.tm + r.le; omega, by show t.tm + r.le ≤ _; omega⟩ (by show l.ws.length ≤ 4; omega) (fun e => by have e : r.cl = -1 := e; omega) (by rw [zw]; exact WsR.nil _)) (fun e => by have e : r.cl ≠ -1 ∧ t.tm + r.le ≤ t.tm := e; omega), rfl, ⟨by show t.nx ≤ t.nx + 1; omega, Int.le_refl _⟩, rfl, ⟨Int.le_refl _, by show (1 : Int) ≤ 8; decide⟩, ⟨by show 0 ≤ t.nx; omega, by show t.nx ≤ t.nx + 1; omega⟩, ⟨by show -1 ≤ r.cl; omega, hcl.2⟩, ⟨by show 0 ≤ t.tm + r.le; omega, by show t.tm + r.le ≤ _; omega⟩⟩
    ·next c2 =>
     split
     ·exact DoR.same h (tellR hl (by decide) (Int.le_refl _))
     ·next c3 =>
      refine ⟨h.set hk (Int.le_refl _) (by rw [hlE]) (P8 hl.1 hl.2.1 hl.2.2.1 hl.2.2.2.1 (by show (l.ws ++ [_]).length ≤ 4; rw [List.length_append]; have := hl.2.2.2.2.1; simp only [List.length_cons, List.length_nil]; omega) (fun e => absurd e c2) ⟨fun x hx => ?_, ?_⟩) hg, rfl, ⟨Int.le_refl _, by show t.nx ≤ t.nx + 1; omega⟩, rfl, tellR hl (by decide) (Int.le_refl _)⟩
      ·rcases List.mem_append.1 hx with q | q
       ·exact hw.1 x q
       ·rw [List.mem_singleton.1 q]; exact ⟨hcl, fun e => c1 (.inl e.symm), by show 1 ≤ r.le; omega, by show r.le ≤ 1000; omega⟩
      ·refine List.pairwise_append.2 ⟨hw.2, List.pairwise_singleton _ _, fun a ha b hb => ?_⟩
       rw [List.mem_singleton.1 hb]
       exact wix_no (fun q => c1 (.inr q)) a ha
  ·rw [if_neg hh]
   split
   ·exact DoR.same h (bareR (by decide) (by omega))
   ·next c1 =>
    have := h.l4
    refine ⟨h.ins hh (by omega) (by omega) rfl (P8 hop ⟨by show 0 ≤ t.nx; omega, by show t.nx ≤ t.nx + 1 - 1; omega⟩ ⟨by show -1 ≤ r.cl; omega, hcl.2⟩ ⟨by show 0 ≤ t.tm + r.le; omega, by show t.tm + r.le ≤ _; omega⟩ (Nat.zero_le _) (fun e => by have e : r.cl = -1 := e; omega) (WsR.nil _)) (fun e => by have e : r.cl ≠ -1 ∧ t.tm + r.le ≤ t.tm := e; omega), rfl, ⟨by show t.nx ≤ t.nx + 1; omega, Int.le_refl _⟩, rfl, ⟨Int.le_refl _, by show (1 : Int) ≤ 8; decide⟩, ⟨by show 0 ≤ t.nx; omega, by show t.nx ≤ t.nx + 1; omega⟩, ⟨by show -1 ≤ r.cl; omega, hcl.2⟩, ⟨by show 0 ≤ t.tm + r.le; omega, by show t.tm + r.le ≤ _; omega⟩⟩
 ·rw [if_neg k1]
  by_cases hh : hit r.nm t.lk
  ·rw [if_pos hh]
   have hk := hh.1
   have hl := h.ok _ hk
   have hg := h.ng _ hk
   unfold doL
   generalize hlE : t.lk.getD (pos r.nm t.lk) Lk0 = l at hl hg ⊢
   have hw := LkOK_ws hl
   split
   ·next c1 =>
    have hx := L1 r.cl l.ws
    have hsub : (l.ws.take (wix r.cl l.ws).toNat ++ l.ws.drop ((wix r.cl l.ws).toNat + 1)).Sublist l.ws := by
     have q := List.take_append_drop (wix r.cl l.ws).toNat l.ws
     have q1 : (l.ws.take (wix r.cl l.ws).toNat ++ l.ws.drop ((wix r.cl l.ws).toNat + 1)).Sublist (l.ws.take (wix r.cl l.ws).toNat ++ l.ws.drop (wix r.cl l.ws).toNat) := by
      refine List.Sublist.append (List.Sublist.refl _) ?_
      rw [← List.drop_drop]
      exact List.drop_sublist _ _
     rwa [q] at q1
    refine ⟨h.set hk (Int.le_refl _) (by rw [hlE]) (P8 hl.1 hl.2.1 hl.2.2.1 hl.2.2.2.1 (Nat.le_trans hsub.length_le hl.2.2.2.2.1) (fun e => ⟨(hl.2.2.2.2.2.1 e).1, by have := hsub.length_le; have := (hl.2.2.2.2.2.1 e).2; show (l.ws.take _ ++ l.ws.drop _).length = 0; omega⟩) ⟨fun x hx => hw.1 x (hsub.subset hx), hw.2.sublist hsub⟩) hg, rfl, ⟨Int.le_refl _, by show t.nx ≤ t.nx + 1; omega⟩, rfl, tellR hl (by decide) (Int.le_refl _)⟩
   ·split
    ·exact DoR.same h (tellR hl (by decide) (Int.le_refl _))
    ·next c2 =>
     split
     ·exact DoR.same h (tellR hl (by decide) (Int.le_refl _))
     ·next c3 =>
      split
      ·next c4 =>
       have hle1 : 0 < r.le := hlk.2 (.inr c4)
       refine ⟨h.set hk (Int.le_refl _) (by rw [hlE]) (P8 hl.1 hl.2.1 hl.2.2.1 ⟨by show 0 ≤ t.tm + r.le; omega, by show t.tm + r.le ≤ _; omega⟩ hl.2.2.2.2.1 (fun e => absurd e c2) hw) (fun e => by have e : l.hd ≠ -1 ∧ t.tm + r.le ≤ t.tm := e; omega), rfl, ⟨Int.le_refl _, by show t.nx ≤ t.nx + 1; omega⟩, rfl, ⟨Int.le_refl _, by show (1 : Int) ≤ 8; decide⟩, ⟨hl.2.1.1, by have := hl.2.1.2; show l.tk ≤ t.nx; omega⟩, hl.2.2.1, ⟨by show 0 ≤ t.tm + r.le; omega, by show t.tm + r.le ≤ _; omega⟩⟩
      ·obtain ⟨q1, q2⟩ := frL_OK hl htm
       have hN : t.nx ≤ frN t.nx l ∧ frN t.nx l ≤ t.nx + 1 := by unfold frN; split <;> omega
       refine ⟨h.set hk hN.1 (by rw [frL_nm, hlE]) q1 (fun e => by unfold gone at e; rcases q2 with q | q <;> omega), rfl, hN, rfl, tellR q1 (by decide) (Int.le_refl _)⟩
  ·rw [if_neg hh]; exact DoR.same h (bareR (by decide) (by omega))
open Go.V
set_option linter.unusedVariables false
set_option linter.unusedSimpArgs false
set_option maxRecDepth 20000
set_option maxHeartbeats 4000000
structure SR (L : List Sn) : Prop where
 l6 : L.length ≤ 6
 ok : ∀ i, i < L.length → (L.getD i Sn0).OK
 srt : SrtS L
theorem OK.SR {t : Tb} (h : t.OK) : SR t.sn := ⟨h.2.2.2.1, fun i hi => (h.2.2.2.2.2 i hi).1, h.srtS⟩
theorem OK_of {t : Tb} (h : LR t) (s : SR t.sn) (hx : t.nx ≤ 1000000) : t.OK := ⟨h.tm, ⟨h.nx, hx⟩, h.l4, s.l6, fun i hi => ⟨h.ok i hi, fun h0 => h.srt i h0 hi⟩, fun i hi => ⟨s.ok i hi, fun h0 => s.srt i h0 hi⟩⟩
theorem snP_bef (c : Int) : ∀ (L : List Sn) (j : Nat), j < snP c L → scl L j < c
 | [], j, h => by simp [snP] at h
 | l :: r, j, h => by
  unfold snP at h
  split at h
  ·next q => cases j with
   | zero => exact q
   | succ j => exact snP_bef c r j (by omega)
  ·exact absurd h (Nat.not_lt_zero _)
theorem snP_at (c : Int) : ∀ (L : List Sn), snP c L < L.length → ¬ scl L (snP c L) < c
 | [], h => by simp at h
 | l :: r, h => by
  unfold snP at h ⊢
  split
  ·next q =>
   rw [if_pos q] at h
   exact snP_at c r (by simpa using h)
  ·next q => exact q
theorem getD_setS {L : List Sn} {k i : Nat} {l : Sn} (h : k < L.length) : (L.set k l).getD i Sn0 = if i = k then l else L.getD i Sn0 := by
 simp only [List.getD_eq_getElem?_getD, List.getElem?_set]
 by_cases e : k = i
 ·subst e; simp [h]
 ·rw [if_neg e, if_neg (fun q => e q.symm)]
theorem SR.set {L : List Sn} (h : SR L) {k : Nat} (hk : k < L.length) {s : Sn} (hs : s.OK) (e : s.cl = (L.getD k Sn0).cl) : SR (L.set k s) := by
 have ec : ∀ i, scl (L.set k s) i = scl L i := fun i => by
  unfold scl; rw [getD_setS hk]; split
  ·next q => rw [e, q]
  ·rfl
 refine ⟨by rw [List.length_set]; exact h.l6, fun i hi => ?_, fun i h0 hi => ?_⟩
 ·rw [List.length_set] at hi
  rw [getD_setS hk]; split
  ·exact hs
  ·exact h.ok i hi
 ·rw [List.length_set] at hi
  rw [ec, ec]; exact h.srt i h0 hi
theorem SR.ins {L : List Sn} (h : SR L) {c : Int} (hh : ¬ snH c L) (h5 : L.length ≤ 5) {s : Sn} (hs : s.OK) (e : s.cl = c) : SR (insL L (snP c L) s) := by
 have hp := snP_le c L
 have eg : ∀ i, (insL L (snP c L) s).getD i Sn0 = if i < snP c L then L.getD i Sn0 else if i = snP c L then s else L.getD (i - 1) Sn0 := fun i => O9 hp i
 have hlen : (insL L (snP c L) s).length = L.length + 1 := I5 hp
 refine ⟨by omega, fun i hi => ?_, fun i h0 hi => ?_⟩
 ·rw [eg]; split
  ·exact h.ok i (by omega)
  ·split
   ·exact hs
   ·exact h.ok (i - 1) (by omega)
 ·show ((insL L (snP c L) s).getD (i - 1) Sn0).cl < ((insL L (snP c L) s).getD i Sn0).cl
  rw [eg, eg]
  by_cases h1 : i < snP c L
  ·rw [if_pos h1, if_pos (by omega)]; exact h.srt i h0 (by omega)
  ·rw [if_neg h1]
   by_cases h2 : i = snP c L
   ·rw [if_pos h2, if_pos (by omega), e]; exact snP_bef c L (i - 1) (by omega)
   ·rw [if_neg h2, if_neg (by omega)]
    by_cases h4 : i - 1 = snP c L
    ·rw [if_pos h4, e, h4]
     have q1 := snP_at c L (by omega)
     have q2 : ¬ (L.getD (snP c L) Sn0).cl = c := fun q => hh ⟨by omega, q⟩
     unfold scl at q1
     omega
    ·rw [if_neg h4]; exact h.srt (i - 1) (by omega) (by omega)
structure RqR (t : Tb) (now : Int) (x : Tb × An) : Prop where
 lr : LR x.1
 sr : SR x.1.sn
 tm : x.1.tm = max t.tm now
 nx : t.nx ≤ x.1.nx ∧ x.1.nx ≤ t.nx + 5
 an : (1 ≤ x.2.kd ∧ x.2.kd ≤ 8) ∧ (0 ≤ x.2.tk ∧ x.2.tk ≤ 1000000) ∧ (-1 ≤ x.2.hd ∧ x.2.hd ≤ 255) ∧ (0 ≤ x.2.ex ∧ x.2.ex ≤ 2000000000)
theorem BJ {t : Tb} {now : Int} {r : Rq} (ht : t.OK) (hr : r.OK) (hn : 0 ≤ now ∧ now ≤ 1000000000) (hx : t.nx ≤ 999900) : RqR t now (rqT t now r) := by
 have hE := LR.ex ht hn
 have hS : SR (exT t now).sn := (OK.SR ht : SR t.sn)
 have hN : t.nx ≤ (exT t now).nx ∧ (exT t now).nx ≤ t.nx + 4 := by
  have q := Y7 (max t.tm now) t.nx t.lk
  have := ht.2.2.1
  show t.nx ≤ nxL (max t.tm now) t.nx t.lk ∧ nxL (max t.tm now) t.nx t.lk ≤ t.nx + 4
  omega
 have hM : (exT t now).tm = max t.tm now := rfl
 have hnx := ht.2.1.1
 have bare : ∀ kd : Int, 1 ≤ kd ∧ kd ≤ 8 → RqR t now (exT t now, bareA kd) := fun kd hk => ⟨hE, hS, hM, by show t.nx ≤ (exT t now).nx ∧ (exT t now).nx ≤ t.nx + 5; omega, bareR hk (by decide)⟩
 unfold rqT reqT
 generalize exT t now = u at hE hS hN hM bare ⊢
 split
 ·next c1 =>
  have q := (hS.ok _ c1.1.1).2.2
  exact ⟨hE, hS, hM, by show t.nx ≤ u.nx ∧ u.nx ≤ t.nx + 5; omega, q⟩
 ·next c1 =>
  split
  ·exact bare 7 (by decide)
  ·next c2 =>
   split
   ·exact bare 6 (by decide)
   ·next c3 =>
    obtain ⟨d1, d2, d3, d4, d5⟩ := doT_R hE hr
    have hso : Sn.OK ⟨r.cl, r.st, (doT u r).2⟩ := ⟨hr.1, hr.2.1, d5.1, ⟨d5.2.1.1, by have := d5.2.1.2; show (doT u r).2.tk ≤ 1000000; omega⟩, d5.2.2.1, d5.2.2.2⟩
    refine ⟨⟨d1.tm, d1.nx, d1.l4, d1.ok, d1.srt, d1.ng⟩, ?_, by show (doT u r).1.tm = _; rw [d2, hM], by show t.nx ≤ (doT u r).1.nx ∧ (doT u r).1.nx ≤ t.nx + 5; omega, ⟨d5.1, ⟨d5.2.1.1, by have := d5.2.1.2; show (doT u r).2.tk ≤ 1000000; omega⟩, d5.2.2.1, d5.2.2.2⟩⟩
    show SR (if snH r.cl u.sn then u.sn.set (snP r.cl u.sn) ⟨r.cl, r.st, (doT u r).2⟩ else insL u.sn (snP r.cl u.sn) ⟨r.cl, r.st, (doT u r).2⟩)
    split
    ·next c4 => exact hS.set c4.1 hso c4.2.symm
    ·next c4 => exact hS.ins c4 (by have := hS.l6; have : ¬ u.sn.length = 6 := fun e => c3 ⟨c4, e⟩; omega) hso rfl
theorem RqR.OK {t : Tb} {now : Int} {x : Tb × An} (h : RqR t now x) (hx : t.nx ≤ 999995) : x.1.OK := OK_of h.lr h.sr (by have := h.nx; omega)
open Go.V
set_option linter.unusedVariables false
set_option linter.unusedSimpArgs false
set_option maxRecDepth 20000
set_option maxHeartbeats 4000000
theorem mapGet {α β : Type} (f : α → β) (d : α) {L : List α} {k : Nat} (h : k < L.length) : (L.map f)[k]? = some (f (L.getD k d)) := by simp [h]
def bT (b : Int) : List T := [.int .u8 b]
def bytes (B : List Int) : Prop := ∀ b ∈ B, 0 ≤ b ∧ b ≤ 255
theorem bytes.get {B : List Int} (h : bytes B) (k : Nat) : 0 ≤ B.getD k 0 ∧ B.getD k 0 ≤ 255 := by
 rcases Nat.lt_or_ge k B.length with hk | hk
 ·rw [List.getD_eq_getElem?_getD, List.getElem?_eq_getElem hk]; exact h _ (List.getElem_mem hk)
 ·rw [List.getD_eq_getElem?_getD, List.getElem?_eq_none hk]; exact ⟨Int.le_refl _, by decide⟩
theorem Y8 {a b : Int} (ha : 0 ≤ a) (hb : 0 < b) : 0 ≤ a.tmod b ∧ a.tmod b < b := ⟨Int.tmod_nonneg _ ha, Int.tmod_lt_of_pos _ hb⟩
def srcB (fr nn : Bool) (B : List Int) (k sd : Int) : Blk := ⟨[[.sl fr nn (B.map bT), .int .i64 k, .int .i64 sd]], 3, 145⟩
def sdOK (sd : Int) : Prop := 0 ≤ sd ∧ sd < 2147483648
theorem o13 (fr nn : Bool) (B : List Int) {h : Heap} {n : Nat} : ∃ sd : Int, sdOK sd ∧ V.Open En 63 [.sl fr nn (B.map bT)] h n (.ptr n 0 0) [(n, some (srcB fr nn B 0 sd))] (n + 1) := by
 refine V.Open.of_wpX (v := fun _ => .ptr n 0 0) (wr := fun sd => [(n, some (srcB fr nn B 0 sd))]) (m := fun _ => n + 1) Try.func63 rfl kb ?_
 refine A2 (A0 (raZ j5 (A3 (A1 (A2 (A0 (I8 j5 (I8 j5 (H0 rfl rfl rfl j3 (rrem j3 ?_ j3 ?_))))))))))
 ·exact Q4
 refine L6 (cs := [_, .int _ _, .int _ _]) j5 (L7 (u := .agg [_, .int _ _, .int _ _]) j3 rfl j3 (raP j5 (A3 (A1 (A9 ?_)))))
 exact ⟨_, by have := Y8 (a := ((B.map bT).length : Int)) (b := 1000) (by omega) (by omega); unfold sdOK; omega, E7 rfl rfl (fun _ _ _ e => e) (Nat.le_refl _)⟩
theorem wrap_q {x : Int} (h1 : 0 ≤ x) (h2 : x < 2147483648) : 0 ≤ IntKind.i64.wrap (x.tdiv 65536) := by
 have h3 : 0 ≤ x.tdiv 65536 := Int.tdiv_nonneg h1 (by decide)
 have h4 : x.tdiv 65536 ≤ x := Int.tdiv_le_self _ h1
 rw [G4 (by omega) (by omega)]; exact h3
theorem o42 (fr nn : Bool) (B : List Int) (hB : bytes B) (hL : B.length ≤ 1048577) (k sd : Int) (hk : 0 ≤ k ∧ k ≤ 1000000) (hs : sdOK sd) {id : Nat} {h : Heap} {n : Nat} (hid : id < n) (hh : h id = some (srcB fr nn B k sd)) :
  ∃ r : Int × Int, (0 ≤ r.1 ∧ r.1 ≤ 255 ∧ sdOK r.2) ∧ V.Open En 126 [.ptr id 0 0] h n (.int .i64 r.1) [(id, some (srcB fr nn B (k + 1) r.2))] n := by
 have hl : (B.map bT).length = B.length := List.length_map ..
 have g := hB.get k.toNat
 have g' := hB.get (k + 1 - 1).toNat
 unfold sdOK at hs
 unfold srcB at hh
 refine V.Open.of_wpX (v := fun r : Int × Int => .int .i64 r.1) (wr := fun r : Int × Int => [(id, some (srcB fr nn B (k + 1) r.2))]) (m := fun _ => n) Try.func126 rfl kb ?_
 refine A2 (A0 (D0 j5 (A3 (A1 (A2 (A0 (D9 j5 (F6 (v := .ptr _ _ _) j6 (C1 (off := 1) (s := 1) (r := false) j3 kz j3 ?_)))))))))
 (apply C5 (v := .int _ _) j2; exact Q0; rfl; exact j5)
 refine C3 j3 ?_ ?_ j3 ?_
 ·exact Q4
 ·exact Q4
 refine F6 (v := .ptr _ _ _) j6 (C1 (off := 1) (s := 1) (r := false) j3 kz j3 ?_)
 (apply D4 (u := .int _ _) j3; exact Q0; rfl; rfl; rfl; rfl; rfl; exact kb; rfl; exact j2)
 refine A3 (A1 (A2 (A2 (C2 [0, 1, 3, 7, 0, 16, 48, 112, 240, 511] rfl (by decide +kernel) ?_))))
 refine G6 j5 (G7 (v := .ptr _ _ _) j6 (D6 (off := 1) (s := 1) (r := false) j3 kz j3 ?_))
 (apply E1 (v := .int _ _) j2; exact Q0; rfl; exact j5)
 refine G6 j5 (G7 (v := .ptr _ _ _) j6 (D6 (off := 0) (s := 1) (r := false) j3 kz j3 ?_))
 (apply E1 (v := .sl _ _ _) j2; exact Q0; rfl; exact j5)
 refine dll rfl rfl rfl j3 ?_
 refine dle j6 ?_ ?_ <;> intro h2_9
 ·refine B1 10 [0, 0, 1, 0, 0, 0, 1, 0, 0, 0] [] j2 (by decide +kernel) trivial ?_
  refine A1 (wT rfl (A2 (C2 [0, 0, 2, 6, 14, 30, 0, 64, 192, 448, 0, 1024, 3072, 7168, 15360, 32704, 65472, 131008, 262142, 524286, 1048574, 2097151, 4194303, 8388607] rfl (by decide +kernel) ?_)))
  refine G6 j5 (G6 j5 (G7 (v := .ptr _ _ _) j6 (D6 (off := 2) (s := 1) (r := false) j3 kz j3 ?_)))
  (apply E1 (v := .int _ _) j2; exact Q0; rfl; exact j5)
  refine dmulF j3 ?_ ?_ j3 ?_
  ·exact Q4
  ·exact Q4
  refine G6 j5 (G7 (v := .ptr _ _ _) j6 (D6 (off := 0) (s := 1) (r := false) j3 kz j3 ?_))
  (apply E1 (v := .sl _ _ _) j2; exact Q0; rfl; exact j5)
  refine G6 j5 (G7 (v := .ptr _ _ _) j6 (D6 (off := 1) (s := 1) (r := false) j3 kz j3 ?_))
  (apply E1 (v := .int _ _) j2; exact Q0; rfl; exact j5)
  refine dsubF j3 ?_ ?_ j3 ?_
  ·exact Q4
  ·exact Q4
  (apply K6 j4; exact Q4; (first | rfl | assumption | (exact mapGet bT 0 (by omega))); exact j4)
  refine N1 (v := .int _ _) j8 (dcvF j4 ?_ ?_ j3 ?_)
  ·(first | exact bt_ge _ _ | exact bt_le _ _ | omega | exact Q4)
  ·(first | exact bt_ge _ _ | exact bt_le _ _ | omega | exact Q4)
  refine V3 j3 ?_ ?_ j3 ?_
  ·exact Q4
  ·exact Q4
  refine V3 j3 ?_ ?_ j3 ?_
  ·exact Q4
  ·exact Q4
  refine drem j3 ?_ j3 ?_
  ·exact Q4
  refine G7 (v := .ptr _ _ _) j6 (D6 (off := 2) (s := 1) (r := false) j3 kz j3 ?_)
  (apply dst (u := .int _ _) rfl rfl rfl; exact Q0; rfl; rfl; rfl; rfl; rfl; exact kb; rfl; rfl; rfl)
  refine B1 24 [3, 0, 0, 0, 0, 0, 0, 0, 0, 0, 1, 0, 0, 0, 1, 0, 0, 0, 0, 1, 0, 0, 0, 0] [] j2 (by decide +kernel) trivial ?_
  refine A1 (A2 (C2 [0, 1, 3, 7, 0, 16, 48, 112, 240, 511, 1023, 2047, 4095] rfl (by decide +kernel) ?_))
  refine G6 j5 (G7 (v := .ptr _ _ _) j6 (D6 (off := 0) (s := 1) (r := false) j3 kz j3 ?_))
  (apply E1 (v := .sl _ _ _) j2; exact Q0; rfl; exact j5)
  refine G6 j5 (G7 (v := .ptr _ _ _) j6 (D6 (off := 1) (s := 1) (r := false) j3 kz j3 ?_))
  (apply E1 (v := .int _ _) j2; exact Q0; rfl; exact j5)
  refine dsubF j3 ?_ ?_ j3 ?_
  ·exact Q4
  ·exact Q4
  (apply K6 j4; exact Q4; (first | rfl | assumption | (exact mapGet bT 0 (by omega))); exact j4)
  refine N1 (v := .int _ _) j8 (dcvF j4 ?_ ?_ j3 ?_)
  ·(first | exact bt_ge _ _ | exact bt_le _ _ | omega | exact Q4)
  ·(first | exact bt_ge _ _ | exact bt_le _ _ | omega | exact Q4)
  refine daI j5 (B1 13 [0, 0, 0, 0, 0, 1, 0, 0, 0, 1, 0, 0, 0] [] j2 (by decide +kernel) trivial ?_)
  refine A1 (A9 (B2 ?_))
  refine ⟨(_, _), ⟨g'.1, g'.2, ?_⟩, E7 rfl rfl (fun hz j b hj => by
   by_cases e : j = id
   ·subst e; simp (disch := omega) only [↓app0, ↓appC, ↓updS, ↓updN] at hj ⊢; exact hj
   ·have hj2 : h j = some b := (B8 h _ e).symm.trans hj
    have : j < n := by
     rcases Nat.lt_or_ge j n with h1 | h1
     ·exact h1
     ·rw [hz j h1] at hj2; cases hj2
    simp (disch := omega) only [↓app0, ↓appC, ↓updN]; exact hj2) (Nat.le_refl _)⟩
  have := Y8 (a := sd * 31 + B.getD (k + 1 - 1).toNat 0 + 7) (b := 2147483648) (by omega) (by omega)
  exact this
 ·refine B1 10 [0, 0, 1, 0, 0, 0, 1, 0, 0, 0] [] j2 (by decide +kernel) trivial ?_
  refine A1 (wF rfl (B0 (A1 (A2 (A2 (A0 (D9 j5 (F6 (v := .ptr _ _ _) j6 (C1 (off := 1) (s := 1) (r := false) j3 kz j3 ?_)))))))))
  (apply C5 (v := .int _ _) j2; exact Q0; rfl; exact j5)
  refine V4 j6 ?_ ?_ <;> intro h5_4
  ·refine A3 (A1 (wT rfl (A2 (A0 (D0 j5 (A3 (A1 (A9 (B2 ?_)))))))))
   exact ⟨(0, sd), ⟨Int.le_refl _, (by dsimp only; omega), hs⟩, E7 rfl rfl (fun hz j b hj => by
    by_cases e : j = id
    ·subst e; simp (disch := omega) only [↓app0, ↓appC, ↓updS, ↓updN] at hj ⊢; exact hj
    ·have hj2 : h j = some b := (B8 h _ e).symm.trans hj
     have : j < n := by
      rcases Nat.lt_or_ge j n with h1 | h1
      ·exact h1
      ·rw [hz j h1] at hj2; cases hj2
     simp (disch := omega) only [↓app0, ↓appC, ↓updN]; exact hj2) (Nat.le_refl _)⟩
  ·refine A3 (A1 (wF rfl (B0 (A1 (A2 (A0 (D9 j5 (D9 j5 (F6 (v := .ptr _ _ _) j6 (C1 (off := 2) (s := 1) (r := false) j3 kz j3 ?_))))))))))
   (apply C5 (v := .int _ _) j2; exact Q0; rfl; exact j5)
   refine rmulF j3 ?_ ?_ j3 ?_
   ·exact Q4
   ·exact Q4
   refine C3 j3 ?_ ?_ j3 ?_
   ·exact Q4
   ·exact Q4
   refine rrem j3 ?_ j3 ?_
   ·exact Q4
   refine F6 (v := .ptr _ _ _) j6 (C1 (off := 2) (s := 1) (r := false) j3 kz j3 ?_)
   (apply D4 (u := .int _ _) j3; exact Q0; rfl; rfl; rfl; rfl; rfl; exact kb; rfl; exact j2)
   refine A3 (A1 (A2 (A0 (D9 j5 (F6 (v := .ptr _ _ _) j6 (C1 (off := 2) (s := 1) (r := false) j3 kz j3 ?_))))))
   (apply C5 (v := .int _ _) j2; exact Q0; rfl; exact j5)
   refine rquo j3 ?_ j3 ?_
   ·omega
   refine rrem j3 ?_ j3 ?_
   ·exact Q4
   refine D0 j5 (A3 (A1 (A9 ?_)))
   have q := Y8 (a := sd * 1103515245 + 12345) (b := 2147483648) (by omega) (by omega)
   refine ⟨(_, _), ⟨?_, ?_, q⟩, E7 rfl rfl (fun hz j b hj => by
    by_cases e : j = id
    ·subst e; simp (disch := omega) only [↓app0, ↓appC, ↓updS, ↓updN] at hj ⊢; exact hj
    ·have hj2 : h j = some b := (B8 h _ e).symm.trans hj
     have : j < n := by
      rcases Nat.lt_or_ge j n with h1 | h1
      ·exact h1
      ·rw [hz j h1] at hj2; cases hj2
     simp (disch := omega) only [↓app0, ↓appC, ↓updN]; exact hj2) (Nat.le_refl _)⟩
   ·exact (Y8 (b := 256) (wrap_q q.1 q.2) (by omega)).1
   ·exact Int.le_of_lt_add_one (Y8 (b := 256) (wrap_q q.1 q.2) (by omega)).2
theorem o29 (fr nn : Bool) (B : List Int) (hB : bytes B) (hL : B.length ≤ 1048577) (k sd m : Int) (hk : 0 ≤ k ∧ k ≤ 1000000) (hs : sdOK sd) (hm : 2 ≤ m ∧ m ≤ 256) {id : Nat} {h : Heap} {n : Nat} (hid : id < n) (hh : h id = some (srcB fr nn B k sd)) :
  ∃ r : Int × Int, ((0 ≤ r.1 ∧ r.1 < m) ∧ sdOK r.2) ∧ V.Open En 97 [.ptr id 0 0, .int .i64 m] h n (.int .i64 r.1) [(id, some (srcB fr nn B (k + 1) r.2))] n := by
 refine V.Open.of_wpX (v := fun r : Int × Int => .int .i64 r.1) (wr := fun r : Int × Int => [(id, some (srcB fr nn B (k + 1) r.2))]) (m := fun _ => n) Try.func97 rfl kb ?_
 refine A2 (A0 (D0 j5 (A3 (A1 (A2 (A2 (A0 (B6 j5 ?_))))))))
 refine rle j6 ?_ ?_ <;> intro h1_1
 ·refine A3 (A1 (wT rfl (A2 ?_)))
  exact absurd h1_1 (by omega)
 ·refine A3 (A1 (wF rfl (B0 (A1 (A2 (A2 (A0 (B6 j5 ?_))))))))
  refine rle j6 ?_ ?_ <;> intro h3_1
  ·refine A3 (A1 (wT rfl (A2 (A0 (D9 j5 (K7 (o42 fr nn B hB hL k sd hk hs hid hh) rfl j5 ?_))))))
   rintro ⟨v, s2⟩ h4_1
   try dsimp only at h4_1
   refine B6 j5 (rrem j3 ?_ j3 ?_)
   ·exact Q4
   refine D0 j5 (A3 (A1 (A9 (B2 ?_))))
   exact ⟨(v.tmod m, s2), ⟨Y8 h4_1.1 (by omega), h4_1.2.2⟩, E7 rfl rfl (fun _ _ _ e => e) (Nat.le_refl _)⟩
  ·refine A3 (A1 (wF rfl (B0 (A1 (A2 ?_)))))
   exact absurd hm.2 h3_1
def sV (s : ByteArray) : List V := [.str s]
theorem o30 (fr nn : Bool) (B : List Int) (hB : bytes B) (hL : B.length ≤ 1048577) (k sd : Int) (a b c : ByteArray) (hk : 0 ≤ k ∧ k ≤ 1000000) (hs : sdOK sd) {id id2 : Nat} {h : Heap} {n : Nat} (hid : id < n) (hne : id ≠ id2) (hh : h id = some (srcB fr nn B k sd))
  (hh2 : h id2 = some ⟨[a, b, c].map sV, 1, 9⟩) :
  ∃ r : ByteArray × Int, (r.1 ∈ [a, b, c] ∧ sdOK r.2) ∧ V.Open En 113 [.ptr id 0 0, .view id2 0 3] h n (.str r.1) [(id, some (srcB fr nn B (k + 1) r.2))] n := by
 refine V.Open.of_wpX (v := fun r : ByteArray × Int => .str r.1) (wr := fun r : ByteArray × Int => [(id, some (srcB fr nn B (k + 1) r.2))]) (m := fun _ => n) Try.func113 rfl kb ?_
 refine A2 (A0 (raS j5 (A3 (A1 (A2 (A2 (A0 (K1 j5 (H0 rfl rfl rfl j3 ?_)))))))))
 refine H5 j6 ?_ ?_ <;> intro h1_2
 ·refine A3 (A1 (wT rfl (A2 ?_)))
  exact absurd h1_2 (by omega)
 ·refine A3 (A1 (wF rfl (B0 (A1 (A2 (A0 (K1 j5 (D9 j5 (K1 j5 (H0 rfl rfl rfl j3 (K7 (o29 fr nn B hB hL k sd 3 hk hs (by decide) hid hh) rfl j5 ?_)))))))))))
  rintro ⟨v, s2⟩ h3_4
  try dsimp only at h3_4
  (apply T8 j4; exact Q0; rfl; exact Q4; exact Q4; exact j3)
  (apply C5 (v := .str _) j2; (simp (disch := omega) only [↓app0, ↓appC, ↓updS, ↓updN]; exact hh2); exact mapGet sV ⟨#[]⟩ (show 0 + v.toNat < 3 by omega); exact j5)
  refine raS j5 (A3 (A1 (A9 ?_)))
  exact ⟨([a, b, c].getD (0 + v.toNat) ⟨#[]⟩, s2), ⟨by
   have hv : 0 + v.toNat < [a, b, c].length := (show 0 + v.toNat < 3 by omega)
   dsimp only
   rw [List.getD_eq_getElem?_getD, List.getElem?_eq_getElem hv]
   exact List.getElem_mem _, h3_4.2⟩, E7 rfl rfl (fun _ _ _ e => e) (Nat.le_refl _)⟩
def nmA : ByteArray := ⟨#[97]⟩
def nmB : ByteArray := ⟨#[98]⟩
def nmL : ByteArray := ⟨#[108, 111, 99, 107]⟩
def Rq.good (r : Rq) : Prop := (0 ≤ r.cl ∧ r.cl ≤ 2) ∧ (1 ≤ r.st ∧ r.st ≤ 5) ∧ (1 ≤ r.kd ∧ r.kd ≤ 4) ∧ r.nm ∈ [nmA, nmB, nmL] ∧ ((r.kd = 1 ∨ r.kd = 3) ∧ 1 ≤ r.le ∧ r.le ≤ 30 ∨ ¬ (r.kd = 1 ∨ r.kd = 3) ∧ r.le = 0)
def Rq.V (r : Rq) : List V := [.int .i64 r.cl, .int .i64 r.st, .int .i64 r.kd, .int .i64 r.le, .str r.nm]
theorem o14 (fr nn : Bool) (B : List Int) (hB : bytes B) (hL : B.length ≤ 1048577) (k sd : Int) (hk : 0 ≤ k ∧ k ≤ 900000) (hs : sdOK sd) {id : Nat} {h : Heap} {n : Nat} (hid : id < n) (hh : h id = some (srcB fr nn B k sd)) :
  ∃ r : Rq × Int × Int, (r.1.good ∧ (k ≤ r.2.1 ∧ r.2.1 ≤ k + 6) ∧ sdOK r.2.2) ∧ V.Open En 73 [.ptr id 0 0] h n (.agg r.1.V) [(id, some (srcB fr nn B r.2.1 r.2.2))] (n + 3) := by
 refine V.Open.of_wpX (v := fun r : Rq × Int × Int => .agg r.1.V) (wr := fun r : Rq × Int × Int => [(id, some (srcB fr nn B r.2.1 r.2.2))]) (m := fun _ => n + 3) Try.func73 rfl kb ?_
 refine A2 (A0 (H3 j6 (A3 (A1 (A2 (A0 (D9 j5 (K7 (o29 fr nn B hB hL k sd 3 ?_ hs (by decide) ?_ ?_) rfl j5 ?_))))))))
 ·exact AK
 ·exact AK
 ·exact AK
 rintro ⟨v1, s1⟩ h1_1
 try dsimp only at h1_1
 refine D9 j5 (K7 (o29 fr nn B hB hL (k + 1) s1 5 ?_ h1_1.2 (by decide) ?_ ?_) rfl j5 ?_)
 ·exact AK
 ·exact AK
 ·exact AK
 rintro ⟨v2, s2⟩ h1_3
 try dsimp only at h1_3
 refine C3 j3 ?_ ?_ j3 ?_
 ·exact Q4
 ·exact Q4
 refine D9 j5 (K7 (o29 fr nn B hB hL (k + 1 + 1) s2 4 ?_ h1_3.2 (by decide) ?_ ?_) rfl j5 ?_)
 ·exact AK
 ·exact AK
 ·exact AK
 rintro ⟨v3, s3⟩ h1_6
 try dsimp only at h1_6
 refine C3 j3 ?_ ?_ j3 ?_
 ·exact Q4
 ·exact Q4
 refine D9 j5 (S8 (es := [[.str _], [.str _], [.str _]]) j4 kz kb rfl rfl j3 ?_)
 refine K7 (o30 fr nn B hB hL (k + 1 + 1 + 1) s3 nmA nmB nmL (id2 := n + 1) ?_ h1_6.2 ?_ ?_ ?_ ?_) rfl j5 ?_
 ·exact AK
 ·exact AK
 ·exact AK
 ·exact AK
 ·exact AK
 rintro ⟨nm, s4⟩ h1_10
 try dsimp only at h1_10
 refine L6 (cs := [.int _ _, .int _ _, .int _ _, .int _ _, .str _]) j5 (H3 j6 ?_)
 (apply D4 (u := .agg [.int _ _, .int _ _, .int _ _, .int _ _, .str _]) j3; exact Q0; rfl; rfl; rfl; rfl; rfl; exact kb; rfl; exact j2)
 refine A3 (A1 (A2 (A2 (A0 (C1 (off := 2) (s := 1) (r := false) j3 kz j3 ?_)))))
 (apply C5 (v := .int _ _) j2; exact Q0; rfl; exact j5)
 refine H5 j6 ?_ ?_ <;> intro h2_2
 ·refine C4 j5 (A4 j3 (A4 j3 (A4 j3 (C0 (e := true) j6 (A3 (A1 (wT rfl (A0 (D9 j5 (K7 (o29 fr nn B hB hL (k + 1 + 1 + 1 + 1) s4 30 ?_ h1_10.2 (by decide) ?_ ?_) rfl j5 ?_))))))))))
  ·exact AK
  ·exact AK
  ·exact AK
  rintro ⟨v5, s5⟩ h3_1
  try dsimp only at h3_1
  refine C3 j3 ?_ ?_ j3 ?_
  ·exact Q4
  ·exact Q4
  refine C1 (off := 3) (s := 1) (r := false) j3 kz j3 ?_
  (apply D4 (u := .int _ _) j3; exact Q0; rfl; rfl; rfl; rfl; rfl; exact kb; rfl; exact j2)
  refine A3 (A1 (A2 (A0 ?_)))
  (apply F9 (vs := [.int _ _, .int _ _, .int _ _, .int _ _, .str _]) j2; exact Q0; rfl; rfl; exact kb; rfl; exact j3)
  (apply D4 (u := .agg [.int _ _, .int _ _, .int _ _, .int _ _, .str _]) j3; exact Q0; rfl; rfl; rfl; rfl; rfl; exact kb; rfl; exact j2)
  refine A3 (A1 (A9 ?_))
  first
   | exact ⟨(⟨v1, 1 + v2, 1 + v3, 1 + v5, nm⟩, k + 1 + 1 + 1 + 1 + 1, s5), ⟨⟨by dsimp only; omega, by dsimp only; omega, by dsimp only; omega, h1_10.1, by dsimp only; omega⟩, by dsimp only; omega, h3_1.2⟩, E7 (A5 (A7 rfl (by simp (disch := omega) only [↓app0, ↓appC, ↓updS, ↓updN]; rfl) j2 kb rfl) A8) rfl (fun hz j b hj => by
   by_cases e : j = id
   ·subst e; simp (disch := omega) only [↓app0, ↓appC, ↓updS, ↓updN] at hj ⊢; exact hj
   ·have hj2 : h j = some b := (B8 h _ e).symm.trans hj
    have : j < n := by
     rcases Nat.lt_or_ge j n with h1 | h1
     ·exact h1
     ·rw [hz j h1] at hj2; cases hj2
    simp (disch := omega) only [↓app0, ↓appC, ↓updN]; exact hj2) (Nat.le_refl _)⟩
   | exact ⟨(⟨v1, 1 + v2, 1 + v3, 0, nm⟩, k + 1 + 1 + 1 + 1, s4), ⟨⟨by dsimp only; omega, by dsimp only; omega, by dsimp only; omega, h1_10.1, by dsimp only; omega⟩, by dsimp only; omega, h1_10.2⟩, E7 (A5 (A7 rfl (by simp (disch := omega) only [↓app0, ↓appC, ↓updS, ↓updN]; rfl) j2 kb rfl) A8) rfl (fun hz j b hj => by
   by_cases e : j = id
   ·subst e; simp (disch := omega) only [↓app0, ↓appC, ↓updS, ↓updN] at hj ⊢; exact hj
   ·have hj2 : h j = some b := (B8 h _ e).symm.trans hj
    have : j < n := by
     rcases Nat.lt_or_ge j n with h1 | h1
     ·exact h1
     ·rw [hz j h1] at hj2; cases hj2
    simp (disch := omega) only [↓app0, ↓appC, ↓updN]; exact hj2) (Nat.le_refl _)⟩
 ·refine C4 j5 (C1 (off := 2) (s := 1) (r := false) j3 kz j3 ?_)
  (apply C5 (v := .int _ _) j2; exact Q0; rfl; exact j5)
  refine H5 j6 ?_ ?_ <;> intro h2_6
  ·refine C0 (e := true) j6 (A3 (A1 (wT rfl (A0 (D9 j5 (K7 (o29 fr nn B hB hL (k + 1 + 1 + 1 + 1) s4 30 ?_ h1_10.2 (by decide) ?_ ?_) rfl j5 ?_))))))
   ·exact AK
   ·exact AK
   ·exact AK
   rintro ⟨v5, s5⟩ h3_1
   try dsimp only at h3_1
   refine C3 j3 ?_ ?_ j3 ?_
   ·exact Q4
   ·exact Q4
   refine C1 (off := 3) (s := 1) (r := false) j3 kz j3 ?_
   (apply D4 (u := .int _ _) j3; exact Q0; rfl; rfl; rfl; rfl; rfl; exact kb; rfl; exact j2)
   refine A3 (A1 (A2 (A0 ?_)))
   (apply F9 (vs := [.int _ _, .int _ _, .int _ _, .int _ _, .str _]) j2; exact Q0; rfl; rfl; exact kb; rfl; exact j3)
   (apply D4 (u := .agg [.int _ _, .int _ _, .int _ _, .int _ _, .str _]) j3; exact Q0; rfl; rfl; rfl; rfl; rfl; exact kb; rfl; exact j2)
   refine A3 (A1 (A9 ?_))
   first
    | exact ⟨(⟨v1, 1 + v2, 1 + v3, 1 + v5, nm⟩, k + 1 + 1 + 1 + 1 + 1, s5), ⟨⟨by dsimp only; omega, by dsimp only; omega, by dsimp only; omega, h1_10.1, by dsimp only; omega⟩, by dsimp only; omega, h3_1.2⟩, E7 (A5 (A7 rfl (by simp (disch := omega) only [↓app0, ↓appC, ↓updS, ↓updN]; rfl) j2 kb rfl) A8) rfl (fun hz j b hj => by
    by_cases e : j = id
    ·subst e; simp (disch := omega) only [↓app0, ↓appC, ↓updS, ↓updN] at hj ⊢; exact hj
    ·have hj2 : h j = some b := (B8 h _ e).symm.trans hj
     have : j < n := by
      rcases Nat.lt_or_ge j n with h1 | h1
      ·exact h1
      ·rw [hz j h1] at hj2; cases hj2
     simp (disch := omega) only [↓app0, ↓appC, ↓updN]; exact hj2) (Nat.le_refl _)⟩
    | exact ⟨(⟨v1, 1 + v2, 1 + v3, 0, nm⟩, k + 1 + 1 + 1 + 1, s4), ⟨⟨by dsimp only; omega, by dsimp only; omega, by dsimp only; omega, h1_10.1, by dsimp only; omega⟩, by dsimp only; omega, h1_10.2⟩, E7 (A5 (A7 rfl (by simp (disch := omega) only [↓app0, ↓appC, ↓updS, ↓updN]; rfl) j2 kb rfl) A8) rfl (fun hz j b hj => by
    by_cases e : j = id
    ·subst e; simp (disch := omega) only [↓app0, ↓appC, ↓updS, ↓updN] at hj ⊢; exact hj
    ·have hj2 : h j = some b := (B8 h _ e).symm.trans hj
     have : j < n := by
      rcases Nat.lt_or_ge j n with h1 | h1
      ·exact h1
      ·rw [hz j h1] at hj2; cases hj2
     simp (disch := omega) only [↓app0, ↓appC, ↓updN]; exact hj2) (Nat.le_refl _)⟩
  ·refine C0 (e := false) j6 (A3 (A1 (wF rfl (B0 (A1 (A2 (A0 ?_)))))))
   (apply F9 (vs := [.int _ _, .int _ _, .int _ _, .int _ _, .str _]) j2; exact Q0; rfl; rfl; exact kb; rfl; exact j3)
   (apply D4 (u := .agg [.int _ _, .int _ _, .int _ _, .int _ _, .str _]) j3; exact Q0; rfl; rfl; rfl; rfl; rfl; exact kb; rfl; exact j2)
   refine A3 (A1 (A9 ?_))
   first
    | exact ⟨(⟨v1, 1 + v2, 1 + v3, 1 + v5, nm⟩, k + 1 + 1 + 1 + 1 + 1, s5), ⟨⟨by dsimp only; omega, by dsimp only; omega, by dsimp only; omega, h1_10.1, by dsimp only; omega⟩, by dsimp only; omega, h3_1.2⟩, E7 (A5 (A7 rfl (by simp (disch := omega) only [↓app0, ↓appC, ↓updS, ↓updN]; rfl) j2 kb rfl) A8) rfl (fun hz j b hj => by
    by_cases e : j = id
    ·subst e; simp (disch := omega) only [↓app0, ↓appC, ↓updS, ↓updN] at hj ⊢; exact hj
    ·have hj2 : h j = some b := (B8 h _ e).symm.trans hj
     have : j < n := by
      rcases Nat.lt_or_ge j n with h1 | h1
      ·exact h1
      ·rw [hz j h1] at hj2; cases hj2
     simp (disch := omega) only [↓app0, ↓appC, ↓updN]; exact hj2) (Nat.le_refl _)⟩
    | exact ⟨(⟨v1, 1 + v2, 1 + v3, 0, nm⟩, k + 1 + 1 + 1 + 1, s4), ⟨⟨by dsimp only; omega, by dsimp only; omega, by dsimp only; omega, h1_10.1, by dsimp only; omega⟩, by dsimp only; omega, h1_10.2⟩, E7 (A5 (A7 rfl (by simp (disch := omega) only [↓app0, ↓appC, ↓updS, ↓updN]; rfl) j2 kb rfl) A8) rfl (fun hz j b hj => by
    by_cases e : j = id
    ·subst e; simp (disch := omega) only [↓app0, ↓appC, ↓updS, ↓updN] at hj ⊢; exact hj
    ·have hj2 : h j = some b := (B8 h _ e).symm.trans hj
     have : j < n := by
      rcases Nat.lt_or_ge j n with h1 | h1
      ·exact h1
      ·rw [hz j h1] at hj2; cases hj2
     simp (disch := omega) only [↓app0, ↓appC, ↓updN]; exact hj2) (Nat.le_refl _)⟩
open Go.V
set_option linter.unusedVariables false
set_option linter.unusedSimpArgs false
set_option maxRecDepth 20000
set_option maxHeartbeats 4000000
end Go.Proofs.Ytknnniaoboaghaa
