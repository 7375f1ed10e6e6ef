import Derived.Test.YtknnniaoboaghaaM15
namespace Go.Proofs.Ytknnniaoboaghaa
open Go.V
set_option linter.unusedVariables false
set_option linter.unusedSimpArgs false
set_option maxRecDepth 20000
set_option maxHeartbeats 4000000
theorem o27Nx (t : Tb) (B : Nat → Bool) (b1 b2 : Bool) (hN : NilOK t B b1 b2) (now : Int) (r : Rq) (n : Nat) : ∃ Sl Ss W wr m, Fresh (apA t now r).1 Sl Ss W wr n m ∧ True ∧ V.Open En 27 ([A.agg (t.N B b1 b2), A.one (.int .i64 now), A.agg r.T].map (A.toV false)) (fun _ => none) n (.tup [.agg [.int .i64 (apA t now r).1.tm, .int .i64 (apA t now r).1.nx, Sl, Ss], .agg (apA t now r).2.1.V, .int .i64 (apA t now r).2.2]) wr m := by
 refine Fresh.of (mk := fun Sl Ss => .tup [.agg [.int .i64 (apA t now r).1.tm, .int .i64 (apA t now r).1.nx, Sl, Ss], .agg (apA t now r).2.1.V, .int .i64 (apA t now r).2.2]) (Z := fun _ _ _ => True) (OpenM.conv (o27N t B b1 b2 hN now r (h := fun _ => none) (n := n)) ?_)
 rintro v g m ⟨Sl, Ss, W, h1, h2, _, _⟩
 exact ⟨Sl, Ss, W, h1, h2, trivial⟩
open Go.V
set_option linter.unusedVariables false
set_option linter.unusedSimpArgs false
set_option maxRecDepth 20000
set_option maxHeartbeats 4000000
theorem o19Ntt (t : Tb) (B : Nat → Bool) (hN : NilOK t B true true) (now : Int) (hok : t.OK) (hr : 0 ≤ now ∧ now ≤ 1000000000) (hu : ¬ t.nx > 999000) {h : Heap} {n : Nat} : OpenM En 19 [.agg [.int .i64 t.tm, .int .i64 t.nx, .sl false true (lksN B t.lk), .sl false true (t.sn.map Sn.T)], .int .i64 now] h n (fun v g m => ∃ Sl Ss W, v = .tup [.agg [.int .i64 (exT t now).tm, .int .i64 (exT t now).nx, Sl, Ss], .int .i64 0] ∧ TabV (exT t now) Sl Ss W g n m ∧ (∀ a, a < n → g a = h a) ∧ n ≤ m) := by
 refine OpenM.of_wp Try.func19 rfl kb ?_
 refine A2 (A0 ?_)
 (refine J6 (u := .agg [.int .i64 t.tm, .int .i64 t.nx, .sl false true (lksN B t.lk), .sl false true (t.sn.map Sn.T)]) j3 rfl j3 ?_)
 refine H0 j6 (D7 j5 (A3 (A1 (A2 (B4 (A2 (A0 ?_)))))))
 (apply F8 (vs := [.int _ _, .int _ _, _, _]) j2; exact Q0; exact C3; rfl; exact kb; rfl; exact j3)
 refine E7 (Pure.ofN hN (p23 t false false false)) rfl j5 ?_ ?_ <;> intro h1_1
 ·refine D5 (c := true) j5 (C4 j5 (A3 (A1 (wF rfl (A2 (A0 (B5 j5 ?_)))))))
  refine E7 (s59 now) rfl j5 ?_ ?_ <;> intro h3_1
  ·refine D5 (c := true) j5 (C4 j5 (A3 (A1 (wF rfl (A2 (A0 (C0 (off := 1) (s := 1) (r := false) j3 kz j3 ?_)))))))
   (apply C6 (v := .int _ _) j2; exact Q0; exact C3; exact j5)
   refine X1 j6 ?_ ?_ <;> intro h5_2
   ·refine C4 j5 (A3 (A1 (wT rfl (A2 ?_))))
    exact absurd h5_2 hu
   ·refine C4 j5 (A3 (A1 (wF rfl (B2 (C2 (A1 (A2 (A0 ?_))))))))
    (apply F8 (vs := [.int _ _, .int _ _, _, _]) j2; exact Q0; exact C3; rfl; exact kb; rfl; exact j3)
    refine I5 (BH t B true true false hN (by have := hok.2.2.1; omega) (fun i hi => by have := OKw hok hi; omega) (by have := hok.2.2.2.1; omega)) rfl j5 ?_
    rintro _ g1 m1 ⟨Sl1, Ss1, W1, rfl, TV, fr1, le1⟩ hc1 hl1
    have kcl1 := TV.kl.cell
    have kcs1 := TV.ks.cell
    have q2 : g1 (n + 1) = some ⟨[[.int .i64 0, .int .i64 0, .nsl, .nsl]], 4, 35⟩ := by rw [fr1 (n + 1) (by omega)]; (simp (disch := (first | omega | assumption)) only [↓appC, ↓updN, ↓updS, ↓app0]); rfl
    have qk : ∀ a, a < n → g1 a = h a := fun a ha => by rw [fr1 a (by omega)]; (simp (disch := (first | omega | assumption)) only [↓appC, ↓updN, ↓updS, ↓app0])
    refine H0 j6 ?_
    (apply D2 (u := .agg [.int _ _, .int _ _, _, _]) j3; exact Q0; exact C3; rfl; rfl; rfl; exact Q6; exact kb; rfl; exact j2)
    refine A3 (A1 (A2 ?_))
    refine W6 fun g2 hg2 => ?_
    have T1 : TabM t m1 Sl1 Ss1 W1 g2 (m1 + 1) := TV.toM ⟨by omega, .inl (Nat.le_refl _)⟩ (by omega) (by rw [hg2]; (simp (disch := (first | omega | assumption)) only [↓appC, ↓updN, ↓updS, ↓app0]); rfl) (fun a h1 h2 => by rw [hg2]; (simp (disch := (first | omega | assumption)) only [↓appC, ↓updN, ↓updS, ↓app0]))
    have r2 : g2 (n + 1) = some ⟨[[.int .i64 0, .int .i64 0, .nsl, .nsl]], 4, 35⟩ := by rw [hg2]; (simp (disch := (first | omega | assumption)) only [↓appC, ↓updN, ↓updS, ↓app0]); exact q2
    have rk : ∀ a, a < n → g2 a = h a := fun a ha => by rw [hg2]; (simp (disch := (first | omega | assumption)) only [↓appC, ↓updN, ↓updS, ↓app0]); exact qk a ha
    have rc : Ch h g2 := by rw [hg2]; (repeat first | exact Ch.refl _ | refine Ch.trans ?_ hc1 | refine Ch.upd ?_ | refine Ch.app ?_)
    refine A0 (B5 j5 ?_)
    refine I5 (o60m t now (by have := hok.1; omega) (by have := hok.2.1; omega) (by have := hok.2.2.1; omega) (fun j hj i hi => ((hok.2.2.2.2.1 j hj).1.2.2.2.2.2.2 i hi).2.2.1) T1) rfl j5 ?_
    rintro _ g3 m3 ⟨rfl, W2, T2, x1, x2, x3⟩ hc3 hl3
    have hO1 : ∀ a, OwnT m1 Sl1 Ss1 W1 t.lk.length a → n + 1 + 1 ≤ a := fun a o => by have := TV.ownM a o; omega
    have hlx : (exT t now).lk.length = t.lk.length := L6 _ _ _
    have hO : ∀ a, OwnT m1 Sl1 Ss1 W2 (exT t now).lk.length a → n + 1 + 1 ≤ a := fun a o => by
     rcases o with e | e | e | ⟨j, hj, e⟩
     ·omega
     ·exact hO1 a (.inr (.inl e))
     ·exact hO1 a (.inr (.inr (.inl e)))
     ·rw [hlx] at hj
      rcases x1 j a hj e with q | q
      ·exact hO1 a (.inr (.inr (.inr ⟨j, hj, q⟩)))
      ·omega
    have kid2 : g3 m1 = some ⟨[[.int .i64 (exT t now).tm, .int .i64 (exT t now).nx, Sl1, Ss1]], 4, 35⟩ := T2.kid
    have p2 : g3 (n + 1) = some ⟨[[.int .i64 0, .int .i64 0, .nsl, .nsl]], 4, 35⟩ := by rw [x2 (n + 1) (by omega) (fun o => by have := hO1 _ o; omega)]; exact r2
    have pk : ∀ a, a < n → g3 a = h a := fun a ha => by rw [x2 a (by omega) (fun o => by have := hO1 _ o; omega)]; exact rk a ha
    refine A3 (A1 (A2 (A0 ?_)))
    (apply F8 (vs := [.int _ _, .int _ _, _, _]) j2; exact Q0; exact C3; rfl; exact kb; rfl; exact j3)
    (apply D2 (u := .agg [.int _ _, .int _ _, _, _]) j3; exact Q0; exact C3; rfl; rfl; rfl; exact Q6; exact kb; rfl; exact j2)
    refine D7 j5 (A3 (A1 (B1 (D9 (A6 (A7 rfl (by exact Q0) j2 kb rfl) (A6 rfl A9)) (by (repeat first | exact Ch.refl _ | exact rc | refine Ch.trans ?_ hc3 | refine Ch.trans ?_ hc1 | refine Ch.upd ?_ | refine Ch.app ?_)) ?_))))
    exact ⟨Sl1, Ss1, W2, rfl, ((T2.toV (n0 := n + 1 + 1) hO).keep (m := m3) (by omega) (fun a h1 h2 => by (simp (disch := (first | omega | assumption)) only [↓appC, ↓updN, ↓updS, ↓app0]))).low (by omega), fun a ha => (by (simp (disch := (first | omega | assumption)) only [↓appC, ↓updN, ↓updS, ↓app0]); exact pk a ha), by omega⟩
  ·refine D5 (c := false) j5 (C4 j5 (A3 (A1 (wT rfl (A2 ?_)))))
   exact absurd hr h3_1
 ·refine D5 (c := false) j5 (C4 j5 (A3 (A1 (wT rfl (A2 ?_)))))
  exact absurd hok h1_1
theorem o19Ntf (t : Tb) (B : Nat → Bool) (hN : NilOK t B true false) (now : Int) (hok : t.OK) (hr : 0 ≤ now ∧ now ≤ 1000000000) (hu : ¬ t.nx > 999000) {h : Heap} {n : Nat} : OpenM En 19 [.agg [.int .i64 t.tm, .int .i64 t.nx, .sl false true (lksN B t.lk), .nsl], .int .i64 now] h n (fun v g m => ∃ Sl Ss W, v = .tup [.agg [.int .i64 (exT t now).tm, .int .i64 (exT t now).nx, Sl, Ss], .int .i64 0] ∧ TabV (exT t now) Sl Ss W g n m ∧ (∀ a, a < n → g a = h a) ∧ n ≤ m) := by
 refine OpenM.of_wp Try.func19 rfl kb ?_
 refine A2 (A0 ?_)
 (refine J6 (u := .agg [.int .i64 t.tm, .int .i64 t.nx, .sl false true (lksN B t.lk), .nsl]) j3 rfl j3 ?_)
 refine H0 j6 (D7 j5 (A3 (A1 (A2 (B4 (A2 (A0 ?_)))))))
 (apply F8 (vs := [.int _ _, .int _ _, _, _]) j2; exact Q0; exact C3; rfl; exact kb; rfl; exact j3)
 refine E7 (Pure.ofN hN (p23 t false false false)) rfl j5 ?_ ?_ <;> intro h1_1
 ·refine D5 (c := true) j5 (C4 j5 (A3 (A1 (wF rfl (A2 (A0 (B5 j5 ?_)))))))
  refine E7 (s59 now) rfl j5 ?_ ?_ <;> intro h3_1
  ·refine D5 (c := true) j5 (C4 j5 (A3 (A1 (wF rfl (A2 (A0 (C0 (off := 1) (s := 1) (r := false) j3 kz j3 ?_)))))))
   (apply C6 (v := .int _ _) j2; exact Q0; exact C3; exact j5)
   refine X1 j6 ?_ ?_ <;> intro h5_2
   ·refine C4 j5 (A3 (A1 (wT rfl (A2 ?_))))
    exact absurd h5_2 hu
   ·refine C4 j5 (A3 (A1 (wF rfl (B2 (C2 (A1 (A2 (A0 ?_))))))))
    (apply F8 (vs := [.int _ _, .int _ _, _, _]) j2; exact Q0; exact C3; rfl; exact kb; rfl; exact j3)
    refine I5 (BH t B true false false hN (by have := hok.2.2.1; omega) (fun i hi => by have := OKw hok hi; omega) (by have := hok.2.2.2.1; omega)) rfl j5 ?_
    rintro _ g1 m1 ⟨Sl1, Ss1, W1, rfl, TV, fr1, le1⟩ hc1 hl1
    have kcl1 := TV.kl.cell
    have kcs1 := TV.ks.cell
    have q2 : g1 (n + 1) = some ⟨[[.int .i64 0, .int .i64 0, .nsl, .nsl]], 4, 35⟩ := by rw [fr1 (n + 1) (by omega)]; (simp (disch := (first | omega | assumption)) only [↓appC, ↓updN, ↓updS, ↓app0]); rfl
    have qk : ∀ a, a < n → g1 a = h a := fun a ha => by rw [fr1 a (by omega)]; (simp (disch := (first | omega | assumption)) only [↓appC, ↓updN, ↓updS, ↓app0])
    refine H0 j6 ?_
    (apply D2 (u := .agg [.int _ _, .int _ _, _, _]) j3; exact Q0; exact C3; rfl; rfl; rfl; exact Q6; exact kb; rfl; exact j2)
    refine A3 (A1 (A2 ?_))
    refine W6 fun g2 hg2 => ?_
    have T1 : TabM t m1 Sl1 Ss1 W1 g2 (m1 + 1) := TV.toM ⟨by omega, .inl (Nat.le_refl _)⟩ (by omega) (by rw [hg2]; (simp (disch := (first | omega | assumption)) only [↓appC, ↓updN, ↓updS, ↓app0]); rfl) (fun a h1 h2 => by rw [hg2]; (simp (disch := (first | omega | assumption)) only [↓appC, ↓updN, ↓updS, ↓app0]))
    have r2 : g2 (n + 1) = some ⟨[[.int .i64 0, .int .i64 0, .nsl, .nsl]], 4, 35⟩ := by rw [hg2]; (simp (disch := (first | omega | assumption)) only [↓appC, ↓updN, ↓updS, ↓app0]); exact q2
    have rk : ∀ a, a < n → g2 a = h a := fun a ha => by rw [hg2]; (simp (disch := (first | omega | assumption)) only [↓appC, ↓updN, ↓updS, ↓app0]); exact qk a ha
    have rc : Ch h g2 := by rw [hg2]; (repeat first | exact Ch.refl _ | refine Ch.trans ?_ hc1 | refine Ch.upd ?_ | refine Ch.app ?_)
    refine A0 (B5 j5 ?_)
    refine I5 (o60m t now (by have := hok.1; omega) (by have := hok.2.1; omega) (by have := hok.2.2.1; omega) (fun j hj i hi => ((hok.2.2.2.2.1 j hj).1.2.2.2.2.2.2 i hi).2.2.1) T1) rfl j5 ?_
    rintro _ g3 m3 ⟨rfl, W2, T2, x1, x2, x3⟩ hc3 hl3
    have hO1 : ∀ a, OwnT m1 Sl1 Ss1 W1 t.lk.length a → n + 1 + 1 ≤ a := fun a o => by have := TV.ownM a o; omega
    have hlx : (exT t now).lk.length = t.lk.length := L6 _ _ _
    have hO : ∀ a, OwnT m1 Sl1 Ss1 W2 (exT t now).lk.length a → n + 1 + 1 ≤ a := fun a o => by
     rcases o with e | e | e | ⟨j, hj, e⟩
     ·omega
     ·exact hO1 a (.inr (.inl e))
     ·exact hO1 a (.inr (.inr (.inl e)))
     ·rw [hlx] at hj
      rcases x1 j a hj e with q | q
      ·exact hO1 a (.inr (.inr (.inr ⟨j, hj, q⟩)))
      ·omega
    have kid2 : g3 m1 = some ⟨[[.int .i64 (exT t now).tm, .int .i64 (exT t now).nx, Sl1, Ss1]], 4, 35⟩ := T2.kid
    have p2 : g3 (n + 1) = some ⟨[[.int .i64 0, .int .i64 0, .nsl, .nsl]], 4, 35⟩ := by rw [x2 (n + 1) (by omega) (fun o => by have := hO1 _ o; omega)]; exact r2
    have pk : ∀ a, a < n → g3 a = h a := fun a ha => by rw [x2 a (by omega) (fun o => by have := hO1 _ o; omega)]; exact rk a ha
    refine A3 (A1 (A2 (A0 ?_)))
    (apply F8 (vs := [.int _ _, .int _ _, _, _]) j2; exact Q0; exact C3; rfl; exact kb; rfl; exact j3)
    (apply D2 (u := .agg [.int _ _, .int _ _, _, _]) j3; exact Q0; exact C3; rfl; rfl; rfl; exact Q6; exact kb; rfl; exact j2)
    refine D7 j5 (A3 (A1 (B1 (D9 (A6 (A7 rfl (by exact Q0) j2 kb rfl) (A6 rfl A9)) (by (repeat first | exact Ch.refl _ | exact rc | refine Ch.trans ?_ hc3 | refine Ch.trans ?_ hc1 | refine Ch.upd ?_ | refine Ch.app ?_)) ?_))))
    exact ⟨Sl1, Ss1, W2, rfl, ((T2.toV (n0 := n + 1 + 1) hO).keep (m := m3) (by omega) (fun a h1 h2 => by (simp (disch := (first | omega | assumption)) only [↓appC, ↓updN, ↓updS, ↓app0]))).low (by omega), fun a ha => (by (simp (disch := (first | omega | assumption)) only [↓appC, ↓updN, ↓updS, ↓app0]); exact pk a ha), by omega⟩
  ·refine D5 (c := false) j5 (C4 j5 (A3 (A1 (wT rfl (A2 ?_)))))
   exact absurd hr h3_1
 ·refine D5 (c := false) j5 (C4 j5 (A3 (A1 (wT rfl (A2 ?_)))))
  exact absurd hok h1_1
theorem o19Nft (t : Tb) (B : Nat → Bool) (hN : NilOK t B false true) (now : Int) (hok : t.OK) (hr : 0 ≤ now ∧ now ≤ 1000000000) (hu : ¬ t.nx > 999000) {h : Heap} {n : Nat} : OpenM En 19 [.agg [.int .i64 t.tm, .int .i64 t.nx, .nsl, .sl false true (t.sn.map Sn.T)], .int .i64 now] h n (fun v g m => ∃ Sl Ss W, v = .tup [.agg [.int .i64 (exT t now).tm, .int .i64 (exT t now).nx, Sl, Ss], .int .i64 0] ∧ TabV (exT t now) Sl Ss W g n m ∧ (∀ a, a < n → g a = h a) ∧ n ≤ m) := by
 refine OpenM.of_wp Try.func19 rfl kb ?_
 refine A2 (A0 ?_)
 (refine J6 (u := .agg [.int .i64 t.tm, .int .i64 t.nx, .nsl, .sl false true (t.sn.map Sn.T)]) j3 rfl j3 ?_)
 refine H0 j6 (D7 j5 (A3 (A1 (A2 (B4 (A2 (A0 ?_)))))))
 (apply F8 (vs := [.int _ _, .int _ _, _, _]) j2; exact Q0; exact C3; rfl; exact kb; rfl; exact j3)
 refine E7 (Pure.ofN hN (p23 t false false false)) rfl j5 ?_ ?_ <;> intro h1_1
 ·refine D5 (c := true) j5 (C4 j5 (A3 (A1 (wF rfl (A2 (A0 (B5 j5 ?_)))))))
  refine E7 (s59 now) rfl j5 ?_ ?_ <;> intro h3_1
  ·refine D5 (c := true) j5 (C4 j5 (A3 (A1 (wF rfl (A2 (A0 (C0 (off := 1) (s := 1) (r := false) j3 kz j3 ?_)))))))
   (apply C6 (v := .int _ _) j2; exact Q0; exact C3; exact j5)
   refine X1 j6 ?_ ?_ <;> intro h5_2
   ·refine C4 j5 (A3 (A1 (wT rfl (A2 ?_))))
    exact absurd h5_2 hu
   ·refine C4 j5 (A3 (A1 (wF rfl (B2 (C2 (A1 (A2 (A0 ?_))))))))
    (apply F8 (vs := [.int _ _, .int _ _, _, _]) j2; exact Q0; exact C3; rfl; exact kb; rfl; exact j3)
    refine I5 (BH t B false true false hN (by have := hok.2.2.1; omega) (fun i hi => by have := OKw hok hi; omega) (by have := hok.2.2.2.1; omega)) rfl j5 ?_
    rintro _ g1 m1 ⟨Sl1, Ss1, W1, rfl, TV, fr1, le1⟩ hc1 hl1
    have kcl1 := TV.kl.cell
    have kcs1 := TV.ks.cell
    have q2 : g1 (n + 1) = some ⟨[[.int .i64 0, .int .i64 0, .nsl, .nsl]], 4, 35⟩ := by rw [fr1 (n + 1) (by omega)]; (simp (disch := (first | omega | assumption)) only [↓appC, ↓updN, ↓updS, ↓app0]); rfl
    have qk : ∀ a, a < n → g1 a = h a := fun a ha => by rw [fr1 a (by omega)]; (simp (disch := (first | omega | assumption)) only [↓appC, ↓updN, ↓updS, ↓app0])
    refine H0 j6 ?_
    (apply D2 (u := .agg [.int _ _, .int _ _, _, _]) j3; exact Q0; exact C3; rfl; rfl; rfl; exact Q6; exact kb; rfl; exact j2)
    refine A3 (A1 (A2 ?_))
    refine W6 fun g2 hg2 => ?_
    have T1 : TabM t m1 Sl1 Ss1 W1 g2 (m1 + 1) := TV.toM ⟨by omega, .inl (Nat.le_refl _)⟩ (by omega) (by rw [hg2]; (simp (disch := (first | omega | assumption)) only [↓appC, ↓updN, ↓updS, ↓app0]); rfl) (fun a h1 h2 => by rw [hg2]; (simp (disch := (first | omega | assumption)) only [↓appC, ↓updN, ↓updS, ↓app0]))
    have r2 : g2 (n + 1) = some ⟨[[.int .i64 0, .int .i64 0, .nsl, .nsl]], 4, 35⟩ := by rw [hg2]; (simp (disch := (first | omega | assumption)) only [↓appC, ↓updN, ↓updS, ↓app0]); exact q2
    have rk : ∀ a, a < n → g2 a = h a := fun a ha => by rw [hg2]; (simp (disch := (first | omega | assumption)) only [↓appC, ↓updN, ↓updS, ↓app0]); exact qk a ha
    have rc : Ch h g2 := by rw [hg2]; (repeat first | exact Ch.refl _ | refine Ch.trans ?_ hc1 | refine Ch.upd ?_ | refine Ch.app ?_)
    refine A0 (B5 j5 ?_)
    refine I5 (o60m t now (by have := hok.1; omega) (by have := hok.2.1; omega) (by have := hok.2.2.1; omega) (fun j hj i hi => ((hok.2.2.2.2.1 j hj).1.2.2.2.2.2.2 i hi).2.2.1) T1) rfl j5 ?_
    rintro _ g3 m3 ⟨rfl, W2, T2, x1, x2, x3⟩ hc3 hl3
    have hO1 : ∀ a, OwnT m1 Sl1 Ss1 W1 t.lk.length a → n + 1 + 1 ≤ a := fun a o => by have := TV.ownM a o; omega
    have hlx : (exT t now).lk.length = t.lk.length := L6 _ _ _
    have hO : ∀ a, OwnT m1 Sl1 Ss1 W2 (exT t now).lk.length a → n + 1 + 1 ≤ a := fun a o => by
     rcases o with e | e | e | ⟨j, hj, e⟩
     ·omega
     ·exact hO1 a (.inr (.inl e))
     ·exact hO1 a (.inr (.inr (.inl e)))
     ·rw [hlx] at hj
      rcases x1 j a hj e with q | q
      ·exact hO1 a (.inr (.inr (.inr ⟨j, hj, q⟩)))
      ·omega
    have kid2 : g3 m1 = some ⟨[[.int .i64 (exT t now).tm, .int .i64 (exT t now).nx, Sl1, Ss1]], 4, 35⟩ := T2.kid
    have p2 : g3 (n + 1) = some ⟨[[.int .i64 0, .int .i64 0, .nsl, .nsl]], 4, 35⟩ := by rw [x2 (n + 1) (by omega) (fun o => by have := hO1 _ o; omega)]; exact r2
    have pk : ∀ a, a < n → g3 a = h a := fun a ha => by rw [x2 a (by omega) (fun o => by have := hO1 _ o; omega)]; exact rk a ha
    refine A3 (A1 (A2 (A0 ?_)))
    (apply F8 (vs := [.int _ _, .int _ _, _, _]) j2; exact Q0; exact C3; rfl; exact kb; rfl; exact j3)
    (apply D2 (u := .agg [.int _ _, .int _ _, _, _]) j3; exact Q0; exact C3; rfl; rfl; rfl; exact Q6; exact kb; rfl; exact j2)
    refine D7 j5 (A3 (A1 (B1 (D9 (A6 (A7 rfl (by exact Q0) j2 kb rfl) (A6 rfl A9)) (by (repeat first | exact Ch.refl _ | exact rc | refine Ch.trans ?_ hc3 | refine Ch.trans ?_ hc1 | refine Ch.upd ?_ | refine Ch.app ?_)) ?_))))
    exact ⟨Sl1, Ss1, W2, rfl, ((T2.toV (n0 := n + 1 + 1) hO).keep (m := m3) (by omega) (fun a h1 h2 => by (simp (disch := (first | omega | assumption)) only [↓appC, ↓updN, ↓updS, ↓app0]))).low (by omega), fun a ha => (by (simp (disch := (first | omega | assumption)) only [↓appC, ↓updN, ↓updS, ↓app0]); exact pk a ha), by omega⟩
  ·refine D5 (c := false) j5 (C4 j5 (A3 (A1 (wT rfl (A2 ?_)))))
   exact absurd hr h3_1
 ·refine D5 (c := false) j5 (C4 j5 (A3 (A1 (wT rfl (A2 ?_)))))
  exact absurd hok h1_1
theorem o19Nff (t : Tb) (B : Nat → Bool) (hN : NilOK t B false false) (now : Int) (hok : t.OK) (hr : 0 ≤ now ∧ now ≤ 1000000000) (hu : ¬ t.nx > 999000) {h : Heap} {n : Nat} : OpenM En 19 [.agg [.int .i64 t.tm, .int .i64 t.nx, .nsl, .nsl], .int .i64 now] h n (fun v g m => ∃ Sl Ss W, v = .tup [.agg [.int .i64 (exT t now).tm, .int .i64 (exT t now).nx, Sl, Ss], .int .i64 0] ∧ TabV (exT t now) Sl Ss W g n m ∧ (∀ a, a < n → g a = h a) ∧ n ≤ m) := by
 refine OpenM.of_wp Try.func19 rfl kb ?_
 refine A2 (A0 ?_)
 (refine J6 (u := .agg [.int .i64 t.tm, .int .i64 t.nx, .nsl, .nsl]) j3 rfl j3 ?_)
 refine H0 j6 (D7 j5 (A3 (A1 (A2 (B4 (A2 (A0 ?_)))))))
 (apply F8 (vs := [.int _ _, .int _ _, _, _]) j2; exact Q0; exact C3; rfl; exact kb; rfl; exact j3)
 refine E7 (Pure.ofN hN (p23 t false false false)) rfl j5 ?_ ?_ <;> intro h1_1
 ·refine D5 (c := true) j5 (C4 j5 (A3 (A1 (wF rfl (A2 (A0 (B5 j5 ?_)))))))
  refine E7 (s59 now) rfl j5 ?_ ?_ <;> intro h3_1
  ·refine D5 (c := true) j5 (C4 j5 (A3 (A1 (wF rfl (A2 (A0 (C0 (off := 1) (s := 1) (r := false) j3 kz j3 ?_)))))))
   (apply C6 (v := .int _ _) j2; exact Q0; exact C3; exact j5)
   refine X1 j6 ?_ ?_ <;> intro h5_2
   ·refine C4 j5 (A3 (A1 (wT rfl (A2 ?_))))
    exact absurd h5_2 hu
   ·refine C4 j5 (A3 (A1 (wF rfl (B2 (C2 (A1 (A2 (A0 ?_))))))))
    (apply F8 (vs := [.int _ _, .int _ _, _, _]) j2; exact Q0; exact C3; rfl; exact kb; rfl; exact j3)
    refine I5 (BH t B false false false hN (by have := hok.2.2.1; omega) (fun i hi => by have := OKw hok hi; omega) (by have := hok.2.2.2.1; omega)) rfl j5 ?_
    rintro _ g1 m1 ⟨Sl1, Ss1, W1, rfl, TV, fr1, le1⟩ hc1 hl1
    have kcl1 := TV.kl.cell
    have kcs1 := TV.ks.cell
    have q2 : g1 (n + 1) = some ⟨[[.int .i64 0, .int .i64 0, .nsl, .nsl]], 4, 35⟩ := by rw [fr1 (n + 1) (by omega)]; (simp (disch := (first | omega | assumption)) only [↓appC, ↓updN, ↓updS, ↓app0]); rfl
    have qk : ∀ a, a < n → g1 a = h a := fun a ha => by rw [fr1 a (by omega)]; (simp (disch := (first | omega | assumption)) only [↓appC, ↓updN, ↓updS, ↓app0])
    refine H0 j6 ?_
    (apply D2 (u := .agg [.int _ _, .int _ _, _, _]) j3; exact Q0; exact C3; rfl; rfl; rfl; exact Q6; exact kb; rfl; exact j2)
    refine A3 (A1 (A2 ?_))
    refine W6 fun g2 hg2 => ?_
    have T1 : TabM t m1 Sl1 Ss1 W1 g2 (m1 + 1) := TV.toM ⟨by omega, .inl (Nat.le_refl _)⟩ (by omega) (by rw [hg2]; (simp (disch := (first | omega | assumption)) only [↓appC, ↓updN, ↓updS, ↓app0]); rfl) (fun a h1 h2 => by rw [hg2]; (simp (disch := (first | omega | assumption)) only [↓appC, ↓updN, ↓updS, ↓app0]))
    have r2 : g2 (n + 1) = some ⟨[[.int .i64 0, .int .i64 0, .nsl, .nsl]], 4, 35⟩ := by rw [hg2]; (simp (disch := (first | omega | assumption)) only [↓appC, ↓updN, ↓updS, ↓app0]); exact q2
    have rk : ∀ a, a < n → g2 a = h a := fun a ha => by rw [hg2]; (simp (disch := (first | omega | assumption)) only [↓appC, ↓updN, ↓updS, ↓app0]); exact qk a ha
    have rc : Ch h g2 := by rw [hg2]; (repeat first | exact Ch.refl _ | refine Ch.trans ?_ hc1 | refine Ch.upd ?_ | refine Ch.app ?_)
    refine A0 (B5 j5 ?_)
    refine I5 (o60m t now (by have := hok.1; omega) (by have := hok.2.1; omega) (by have := hok.2.2.1; omega) (fun j hj i hi => ((hok.2.2.2.2.1 j hj).1.2.2.2.2.2.2 i hi).2.2.1) T1) rfl j5 ?_
    rintro _ g3 m3 ⟨rfl, W2, T2, x1, x2, x3⟩ hc3 hl3
    have hO1 : ∀ a, OwnT m1 Sl1 Ss1 W1 t.lk.length a → n + 1 + 1 ≤ a := fun a o => by have := TV.ownM a o; omega
    have hlx : (exT t now).lk.length = t.lk.length := L6 _ _ _
    have hO : ∀ a, OwnT m1 Sl1 Ss1 W2 (exT t now).lk.length a → n + 1 + 1 ≤ a := fun a o => by
     rcases o with e | e | e | ⟨j, hj, e⟩
     ·omega
     ·exact hO1 a (.inr (.inl e))
     ·exact hO1 a (.inr (.inr (.inl e)))
     ·rw [hlx] at hj
      rcases x1 j a hj e with q | q
      ·exact hO1 a (.inr (.inr (.inr ⟨j, hj, q⟩)))
      ·omega
    have kid2 : g3 m1 = some ⟨[[.int .i64 (exT t now).tm, .int .i64 (exT t now).nx, Sl1, Ss1]], 4, 35⟩ := T2.kid
    have p2 : g3 (n + 1) = some ⟨[[.int .i64 0, .int .i64 0, .nsl, .nsl]], 4, 35⟩ := by rw [x2 (n + 1) (by omega) (fun o => by have := hO1 _ o; omega)]; exact r2
    have pk : ∀ a, a < n → g3 a = h a := fun a ha => by rw [x2 a (by omega) (fun o => by have := hO1 _ o; omega)]; exact rk a ha
    refine A3 (A1 (A2 (A0 ?_)))
    (apply F8 (vs := [.int _ _, .int _ _, _, _]) j2; exact Q0; exact C3; rfl; exact kb; rfl; exact j3)
    (apply D2 (u := .agg [.int _ _, .int _ _, _, _]) j3; exact Q0; exact C3; rfl; rfl; rfl; exact Q6; exact kb; rfl; exact j2)
    refine D7 j5 (A3 (A1 (B1 (D9 (A6 (A7 rfl (by exact Q0) j2 kb rfl) (A6 rfl A9)) (by (repeat first | exact Ch.refl _ | exact rc | refine Ch.trans ?_ hc3 | refine Ch.trans ?_ hc1 | refine Ch.upd ?_ | refine Ch.app ?_)) ?_))))
    exact ⟨Sl1, Ss1, W2, rfl, ((T2.toV (n0 := n + 1 + 1) hO).keep (m := m3) (by omega) (fun a h1 h2 => by (simp (disch := (first | omega | assumption)) only [↓appC, ↓updN, ↓updS, ↓app0]))).low (by omega), fun a ha => (by (simp (disch := (first | omega | assumption)) only [↓appC, ↓updN, ↓updS, ↓app0]); exact pk a ha), by omega⟩
  ·refine D5 (c := false) j5 (C4 j5 (A3 (A1 (wT rfl (A2 ?_)))))
   exact absurd hr h3_1
 ·refine D5 (c := false) j5 (C4 j5 (A3 (A1 (wT rfl (A2 ?_)))))
  exact absurd hok h1_1
theorem o19N (t : Tb) (B : Nat → Bool) (b1 b2 : Bool) (hN : NilOK t B b1 b2) (now : Int) (hok : t.OK) (hr : 0 ≤ now ∧ now ≤ 1000000000) (hu : ¬ t.nx > 999000) {h : Heap} {n : Nat} : OpenM En 19 [.agg [.int .i64 t.tm, .int .i64 t.nx, T.toV false (nlT b1 (lksN B t.lk)), T.toV false (nlT b2 (t.sn.map Sn.T))], .int .i64 now] h n (fun v g m => ∃ Sl Ss W, v = .tup [.agg [.int .i64 (exT t now).tm, .int .i64 (exT t now).nx, Sl, Ss], .int .i64 0] ∧ TabV (exT t now) Sl Ss W g n m ∧ (∀ a, a < n → g a = h a) ∧ n ≤ m) := by
 cases b1 <;> cases b2
 ·exact o19Nff t B hN now hok hr hu
 ·exact o19Nft t B hN now hok hr hu
 ·exact o19Ntf t B hN now hok hr hu
 ·exact o19Ntt t B hN now hok hr hu
theorem o19Nx (t : Tb) (B : Nat → Bool) (b1 b2 : Bool) (hN : NilOK t B b1 b2) (now : Int) (hok : t.OK) (hr : 0 ≤ now ∧ now ≤ 1000000000) (hu : ¬ t.nx > 999000) (n : Nat) : ∃ Sl Ss W wr m, Fresh (exT t now) Sl Ss W wr n m ∧ True ∧ V.Open En 19 ([A.agg (t.N B b1 b2), A.one (.int .i64 now)].map (A.toV false)) (fun _ => none) n (.tup [.agg [.int .i64 (exT t now).tm, .int .i64 (exT t now).nx, Sl, Ss], .int .i64 0]) wr m := by
 refine Fresh.of (mk := fun Sl Ss => .tup [.agg [.int .i64 (exT t now).tm, .int .i64 (exT t now).nx, Sl, Ss], .int .i64 0]) (Z := fun _ _ _ => True) (OpenM.conv (o19N t B b1 b2 hN now hok hr hu (h := fun _ => none) (n := n)) ?_)
 rintro v g m ⟨Sl, Ss, W, h1, h2, _, _⟩
 exact ⟨Sl, Ss, W, h1, h2, trivial⟩
open Go.V
set_option linter.unusedVariables false
set_option linter.unusedSimpArgs false
set_option maxRecDepth 20000
set_option maxHeartbeats 4000000
theorem rowsRq (L : List Rq) : rowsV (L.map Rq.T) = L.map Rq.V := by unfold rowsV; rw [List.map_map]; rfl
theorem rowsI (L : List Int) : rowsV (L.map iT) = L.map iV := by unfold rowsV; rw [List.map_map]; rfl
def tabA (t : Tb) : V := .agg [.int .i64 t.tm, .int .i64 t.nx, .sl true true (t.lk.map (Lk.T true)), .sl true true (t.sn.map Sn.T)]
theorem o72 (fr nn : Bool) (B : List Int) (hB : bytes B) (hL : B.length ≤ 1048577) (k sd : Int) (hk : 0 ≤ k ∧ k ≤ 1000) (hs : sdOK sd) {id : Nat} {h : Heap} {n : Nat} (hid : id < n) (hh : h id = some (srcB fr nn B k sd)) : OpenM En 72 [.ptr id 0 0] h n (fun v g m => ∃ (L : List Rq) (Tm : List Int), Reqs L Tm ∧ v = tabA (runT L Tm L.length).1 ∧ ∀ x, x < n → x ≠ id → g x = h x) := by
 refine OpenM.of_wp Try.func72 rfl kb ?_
 refine A2 (A0 (H0 j6 (A3 (A1 (A2 (A0 (E0 j5 (I5 (o64 fr nn B hB hL k sd hk hs (by omega) (by exact Q0)) rfl j5 ?_))))))))
 rintro v1 g1 m1 ⟨L, Tm, bq, bt, rfl, hr1, hr2, hr3, hg1, hg2, hm1, hfr⟩ hc1 hl1
 have hfn : g1 n = some ⟨[[.int .i64 0, .int .i64 0, .nsl, .nsl]], 4, 35⟩ := by rw [hfr n (by omega) (by omega)]; exact Q0
 refine rmT j5 (U4 j6 (U4 j6 (V9 j5 (V9 j5 (A3 (A1 (A2 (A0 (K0 j5 (K0 j5 ?_))))))))))
 apply J0 [bq, bt] (s26 L Tm true true ⟨hr1, hr2, hr3.1, hr3.2⟩) rfl j2
 ·exact SnapL.cons _ _ _ _ (.one _ _ (L7 (L.map Rq.T) (by simp) hg1 (rowsRq L).symm (by rw [List.length_map]))) (SnapL.cons _ _ _ _ (.one _ _ (L7 (Tm.map iT) (by simp) hg2 (rowsI Tm).symm (by rw [List.length_map]))) SnapL.nil)
 ·rfl
 ·rfl
 ·rfl
 refine rmT j5 (U4 j6 (U4 j6 (U4 j6 (H0 j6 ?_))))
 (apply D2 (u := .agg [.int _ _, .int _ _, _, _]) j3; exact Q0; exact C3; rfl; rfl; rfl; rfl; exact kb; rfl; exact j2)
 refine raL j5 (D7 j5 (A3 (A1 (A2 (A0 ?_)))))
 (apply F8 (vs := [.int _ _, .int _ _, _, _]) j2; exact Q0; exact C3; rfl; exact kb; rfl; exact j3)
 (apply D2 (u := .agg [.int _ _, .int _ _, _, _]) j3; exact Q0; exact C3; rfl; rfl; rfl; rfl; exact kb; rfl; exact j2)
 refine A3 (A1 (B1 ?_))
 refine D9 (A6 (A7 rfl (by exact Q0) j2 kb rfl) A9) ?_ ⟨L, Tm, ⟨hr1, hr2, hr3.1, hr3.2⟩, rfl, fun x h1 h2 => ?_⟩
 ·(repeat first | exact Ch.refl _ | refine Ch.upd ?_ | refine Ch.app ?_ | (refine Ch.trans ?_ hc1))
 ·(simp (disch := (first | omega | assumption)) only [↓appC, ↓updN, ↓updS, ↓app0])
  rw [hfr x (by omega) h2]
  (simp (disch := (first | omega | assumption)) only [↓appC, ↓updN, ↓updS, ↓app0])
theorem s28 (nn : Bool) (B : List Int) (hB : bytes B) (hL : B.length ≤ 1048577) : ∃ x : List Rq × List Int, Reqs x.1 x.2 ∧ Pure En 28 [.one (.sl nn (B.map bT))] [.agg ((runT x.1 x.2 x.1.length).1.T true true true)] := by
 refine Pure.of_wpX Try.func28 rfl kb ?_
 refine A2 (A0 (H0 j6 (A3 (A1 (A2 (A0 (AL j5 (K1 (o13 false nn B) rfl j5 ?_))))))))
 rintro sd h1_1
 try dsimp only at h1_1
 refine I5 (o72 false nn B hB hL 0 sd (by omega) h1_1 (by omega) (by exact Q0)) rfl j5 ?_
 rintro _ g1 m1 ⟨L, Tm, hR, rfl, hfr⟩ hc1 hl1
 have hfn : g1 0 = some ⟨[[.int .i64 0, .int .i64 0, .nsl, .nsl]], 4, 35⟩ := by rw [hfr 0 (by omega) (by omega)]; exact Q0
 (apply D2 (u := .agg [.int _ _, .int _ _, _, _]) j3; exact Q0; exact C3; rfl; rfl; rfl; rfl; exact kb; rfl; exact j2)
 refine A3 (A1 (B1 ?_))
 exact ⟨(L, Tm), hR, X4 [] (A6 (A7 rfl (by exact Q0) j2 kb rfl) A9) (SnapL.cons _ _ _ _ (SnapC.agg (.cons _ _ _ _ (.int _ _) (.cons _ _ _ _ (.int _ _) (.cons _ _ _ _ (.sl _ _ _ (fun _ => .inl rfl)) (.cons _ _ _ _ (.sl _ _ _ (fun _ => .inl rfl)) .nil))))) SnapL.nil)⟩
open Go.V
set_option linter.unusedVariables false
set_option linter.unusedSimpArgs false
set_option maxRecDepth 20000
set_option maxHeartbeats 4000000
def bV (b : Int) : List V := [.int .u8 b]
theorem takeAll {l : List Int} {m : Nat} (h : l.length = m) : (((l.map bV).drop 0).take m) = l.map fun b => [.int .u8 b] := by
 rw [List.drop_zero, List.take_of_length_le (by simp; omega)]; rfl
theorem setMap {l : List Int} {i : Nat} {x : Int} : (l.map bV).set i (bV x) = (l.set i x).map bV := by
 rw [List.map_set]
theorem p37 (x : Int) (m : Nat) (hm : m ≤ 8) : ∃ s : ByteArray, s.size = m ∧ Pure En 115 [.one (.int .i64 x), .one (.int .i64 m)] [.one (.str s)] := by
 refine Pure.of_wpX Try.func115 rfl kb ?_
 refine A2 (A0 (raS j5 (A3 (A1 (A2 (A0 (B5 j5 (rmk (s' := 1) j6 kz ?_ ?_ j3 ?_))))))))
 ·exact Q4
 ·exact Q4
 refine V9 j5 (A3 (A1 (A2 (A2 (A0 (B5 j5 (O9 j3 ?_ ?_ j3 ?_)))))))
 ·exact Q4
 ·exact Q4
 refine D7 j5 (A3 (A1 (B4 (F6 ?_))))
 refine E8 (fun (a : Int × Int × List Int) => [.int .i64 a.2.1, .int .i64 m, .unk, .unk, .unk, .view 0 0 m, .int .i64 (a.1 - 1)]) (fun (a : Int × Int × List Int) => hp [(0, ⟨a.2.2.map bV, 1, 5⟩)]) (fun (a : Int × Int × List Int) => 1) (fun (a : Int × Int × List Int) => a.2.2.length = m ∧ a.1 ≤ m) (fun (a : Int × Int × List Int) => a.1.toNat) ((m : Int), x, List.replicate m 0) ?_ ?_ ?_ ?_ ?_
 ·exact ⟨List.length_replicate .., Int.le_refl _⟩
 ·(repeat first | exact LE.nil _ | refine LE.unk _ _ ?_ | refine LE.eq _ _ _ rfl ?_)
 ·(repeat first | exact E3 | (refine E6 ?_ ?_; (first | exact Q0 | (dsimp only; rw [List.map_replicate]; rfl) | (dsimp only; rw [List.map_set, Nat.zero_add]; rfl))))
 ·exact Nat.le_refl _
 intro ⟨i, y, L⟩ hI ih
 dsimp only at hI ⊢
 refine F5 (A2 (A2 (A0 (B5 j5 ?_))))
 refine rge j6 ?_ ?_ <;> intro h3_1
 ·refine A3 (A1 (wT rfl (B2 (A1 (A2 (B4 (A2 (A0 (K0 j5 (B5 j5 (B5 j5 (rcv j7 ?_))))))))))))
  (apply V0 j4; exact Q0; rfl; exact Q4; exact Q4; exact j3)
  (apply D2 j3; rfl; exact mapGet bV 0 (show 0 + (i - 1 : Int).toNat < L.length by omega); rfl; rfl; rfl; rfl; exact kb; rfl; exact j2)
  refine A3 (A1 (A0 (B5 j5 (rshr j3 ?_ j3 ?_))))
  ·exact Q4
  refine D7 j5 (A3 (C2 (A1 (A0 (B5 j5 (O9 j3 ?_ ?_ j3 ?_))))))
  ·exact Q4
  ·exact Q4
  refine D7 j5 (A3 (E5 ?_))
  exact J7 (ih (i - 1, _, L.set (i - 1 : Int).toNat (IntKind.u8.wrap y)) ⟨by dsimp only; rw [List.length_set]; exact hI.1, by dsimp only; omega⟩ (by dsimp only; omega)) (by (repeat first | exact LE.nil _ | refine LE.unk _ _ ?_ | refine LE.eq _ _ _ rfl ?_)) (by (repeat first | exact E3 | (refine E6 ?_ ?_; (first | exact Q0 | (dsimp only; rw [List.map_replicate]; rfl) | (dsimp only; rw [List.map_set, Nat.zero_add]; rfl))))) (Nat.le_refl _)
 ·refine A3 (A1 (wF rfl (E9 (F0 (D8 (C9 (A1 (A2 (A0 (K0 j5 ?_))))))))))
  (apply rsg j4; (apply K3 rfl; exact Q0; (first | exact Nat.le_refl _ | omega | (simp; omega)); rfl); (intro s e; cases e); exact takeAll hI.1; exact j3)
  refine raS j5 (A3 (A1 (B1 ?_)))
  exact ⟨strOf L, by rw [U0]; exact hI.1, fin rfl rfl⟩
theorem num_ex (x : Int) (m : Nat) : ∃ s : ByteArray, s.size = m ∧ (m ≤ 8 → Pure En 115 [.one (.int .i64 x), .one (.int .i64 m)] [.one (.str s)]) := by
 by_cases h : m ≤ 8
 ·obtain ⟨s, h1, h2⟩ := p37 x m h
  exact ⟨s, h1, fun _ => h2⟩
 ·exact ⟨⟨(List.replicate m 0).toArray⟩, by simp [ByteArray.size], fun h' => absurd h' h⟩
noncomputable def Nm (x : Int) (m : Nat) : ByteArray := Classical.choose (num_ex x m)
theorem L4 (x : Int) (m : Nat) : (Nm x m).size = m := (Classical.choose_spec (num_ex x m)).1
theorem q37 (x : Int) (m : Nat) (h : m ≤ 8) : Pure En 115 [.one (.int .i64 x), .one (.int .i64 m)] [.one (.str (Nm x m))] := (Classical.choose_spec (num_ex x m)).2 h
noncomputable def atx (a : An) : ByteArray := Nm a.kd 1 ++ Nm a.tk 3 ++ Nm (a.hd + 1) 2 ++ Nm a.ex 4
theorem atx_size (a : An) : (atx a).size = 10 := by simp only [atx, ByteArray.size_append, L4]
theorem p38 (a : An) (h : a.OK) : Pure En 116 [.agg a.T] [.one (.str (atx a))] := by
 unfold An.OK at h
 refine Pure.of_wp Try.func116 rfl kb ?_
 refine A2 (A0 (J6 (u := .agg [.int _ _, .int _ _, .int _ _, .int _ _]) j3 rfl j3 (raS j5 (A3 (A1 (A2 (B9 [0, 1, 3, 0, 8, 31, 63, 0, 128, 384, 959, 2047, 0, 4096, 14271, 32767, 65535] rfl (by decide +kernel) ?_)))))))
 refine C8 (off := 0) (s := 1) (r := false) j3 kz j3 (D1 (v := .int _ _) j2 rfl rfl j5 (V1 (q37 _ 1 kb) rfl j5 (C8 (off := 1) (s := 1) (r := false) j3 kz j3 (D1 (v := .int _ _) j2 rfl rfl j5 (V1 (q37 _ 3 kb) rfl j5 (X2 j3 ?_ j3 ?_))))))
 ·(simp only [ByteArray.size_append, L4]; omega)
 refine C8 (off := 2) (s := 1) (r := false) j3 kz j3 (D1 (v := .int _ _) j2 rfl rfl j5 (K8 j3 ?_ ?_ j3 ?_))
 ·omega
 ·omega
 refine V1 (q37 _ 2 kb) rfl j5 (X2 j3 ?_ j3 ?_)
 ·(simp only [ByteArray.size_append, L4]; omega)
 refine C8 (off := 3) (s := 1) (r := false) j3 kz j3 (D1 (v := .int _ _) j2 rfl rfl j5 (V1 (q37 _ 4 kb) rfl j5 (X2 j3 ?_ j3 ?_)))
 ·(simp only [ByteArray.size_append, L4]; omega)
 refine daS j5 (B3 17 [0, 0, 0, 1, 0, 0, 0, 0, 1, 0, 0, 0, 1, 0, 0, 1, 0] [] j2 (by decide +kernel) trivial ?_)
 refine A1 (B1 ?_)
 exact fin rfl rfl
open Go.V
set_option linter.unusedVariables false
set_option linter.unusedSimpArgs false
set_option maxRecDepth 20000
set_option maxHeartbeats 4000000
theorem s75 (t : Tb) (b n1 n2 : Bool) (ht : t.OK) : ∃ s : ByteArray, True ∧ Pure En 75 [.agg (t.T b n1 n2)] [.one (.str s)] := by
 have h1 := ht.2.2.1
 have h2 := ht.2.2.2.1
 have hl1 : (t.lk.map (Lk.T b)).length = t.lk.length := List.length_map ..
 have hl2 : (t.sn.map Sn.T).length = t.sn.length := List.length_map ..
 refine Pure.of_wpX (R := fun s : ByteArray => [.one (.str s)]) (p := fun _ => True) Try.func75 rfl kb ?_
 refine A2 (A0 ?_)
 (refine J6 (u := .agg [.int .i64 t.tm, .int .i64 t.nx, .sl false n1 (t.lk.map (Lk.T b)), .sl false n2 (t.sn.map Sn.T)]) j3 rfl j3 ?_)
 refine raS j5 (A3 (A1 (A2 (B9 [0, 1, 3, 0, 8, 31, 63, 0, 128, 384, 959, 2047, 4095] rfl (by decide +kernel) ?_))))
 refine C8 (off := 0) (s := 1) (r := false) j3 kz j3 ?_
 (apply D1 (v := .int _ _) j2; exact Q0; exact C3; exact j5)
 refine V1 (q37 _ 4 kb) rfl j5 (C8 (off := 1) (s := 1) (r := false) j3 kz j3 ?_)
 (apply D1 (v := .int _ _) j2; exact Q0; exact C3; exact j5)
 refine V1 (q37 _ 3 kb) rfl j5 (X2 j3 ?_ j3 ?_)
 ·exact Q28
 refine C8 (off := 2) (s := 1) (r := false) j3 kz j3 ?_
 (apply D1 (v := .sl _ _ _) j2; exact Q0; exact C3; exact j5)
 refine dll rfl rfl rfl j3 (V1 (q37 _ 1 kb) rfl j5 (X2 j3 ?_ j3 ?_))
 ·exact Q28
 refine daS j5 (B3 13 [0, 0, 0, 0, 1, 0, 0, 0, 1, 0, 0, 1, 0] [] j2 (by decide +kernel) trivial ?_)
 refine A1 (A2 (A2 (A0 (C0 (off := 2) (s := 1) (r := false) j3 kz j3 ?_))))
 (apply C6 (v := .sl _ _ _) j2; exact Q0; exact C3; exact j5)
 refine H9 rfl rfl rfl j3 (B5 j5 (A3 (A1 (B4 (F6 ?_)))))
 refine E8 (fun (a : Nat × ByteArray × Nat) => [.unk, .ptr 0 0 0, .unk, .str a.2.1, .unk, .unk, .unk, .unk, .unk, .unk, .unk, .unk, .unk, .unk, .unk, .unk, .unk, .unk, .unk, .unk, .unk, .unk, .unk, .sl false n1 (t.lk.map (Lk.T b)), .int .i64 (t.lk.map (Lk.T b)).length, .int .i64 a.1]) (fun (a : Nat × ByteArray × Nat) => hp [(0, ⟨[[.int .i64 t.tm, .int .i64 t.nx, .sl false n1 (t.lk.map (Lk.T b)), .sl false n2 (t.sn.map Sn.T)]], 4, 35⟩)]) (fun (a : Nat × ByteArray × Nat) => a.2.2) (fun (a : Nat × ByteArray × Nat) => a.1 ≤ t.lk.length ∧ a.2.1.size ≤ 8 + 50 * a.1 ∧ 1 ≤ a.2.2) (fun (a : Nat × ByteArray × Nat) => t.lk.length - a.1) (0, Nm t.tm 4 ++ Nm t.nx 3 ++ Nm (t.lk.map (Lk.T b)).length 1, 1) ?_ ?_ ?_ ?_ ?_
 ·exact ⟨Nat.zero_le _, by dsimp only; simp only [ByteArray.size_append, L4]; omega, Nat.le_refl _⟩
 ·(repeat first | exact LE.nil _ | refine LE.unk _ _ ?_ | refine LE.eq _ _ _ rfl ?_)
 ·(repeat first | exact E3 | (refine E6 ?_ ?_; exact U5))
 ·exact Nat.le_refl _
 intro ⟨i, s, m⟩ hI ih
 dsimp only at hI ⊢
 have ih0 := ih
 have hi4 := hI.1
 have hi5 := hI.2
 have hl5 : ((t.lk.getD i Lk0).ws.map wtT).length = (t.lk.getD i Lk0).ws.length := List.length_map ..
 have hln : i < t.lk.length → (t.lk.getD i Lk0).nm.size ≤ 12 ∧ (t.lk.getD i Lk0).ws.length ≤ 4 ∧ (-1 ≤ (t.lk.getD i Lk0).hd ∧ (t.lk.getD i Lk0).hd ≤ 255) := fun h => ⟨(ht.2.2.2.2.1 i h).1.1.1, OKw ht h, (ht.2.2.2.2.1 i h).1.2.2.1⟩
 refine F5 (A2 (A0 ?_))
 refine I9 j6 ?_ ?_ <;> intro h3_0
 ·refine A3 (A1 (A2 (wT rfl (B2 (A1 (A2 (B4 (A2 (A0 ?_)))))))))
  (apply N6 j4; exact Q28; exact Q38; exact j4)
  refine S9 (vs := [.str _, .int _ _, .int _ _, .int _ _, _]) j3 kb j4 (H0 j6 ?_)
  (apply D2 (u := .agg [.str _, .int _ _, .int _ _, .int _ _, _]) j3; exact Q0; exact C3; rfl; rfl; rfl; rfl; exact kb; rfl; exact j2)
  refine A3 (A1 (A2 ?_))
  have hl3 := hln (by omega)
  refine B9 [0, 0, 2, 6, 14, 0, 32, 126, 0, 256, 798, 2046, 0, 4096, 12288, 30494, 65534, 0, 131072, 456478, 1048574, 0, 2097152, 6291456, 15660830, 33554430, 67108863, 134217727] rfl (by decide +kernel) ?_
  refine dmS j5 (C8 (off := 0) (s := 1) (r := false) j3 kz j3 ?_)
  (apply D1 (v := .str _) j2; exact Q0; exact C3; exact j5)
  refine dls rfl j5 (V1 (q37 _ 1 kb) rfl j5 (C8 (off := 0) (s := 1) (r := false) j3 kz j3 ?_))
  (apply D1 (v := .str _) j2; exact Q0; exact C3; exact j5)
  refine X2 j3 ?_ j3 ?_
  ·exact Q28
  refine C8 (off := 1) (s := 1) (r := false) j3 kz j3 ?_
  (apply D1 (v := .int _ _) j2; exact Q0; exact C3; exact j5)
  refine V1 (q37 _ 3 kb) rfl j5 (X2 j3 ?_ j3 ?_)
  ·exact Q28
  refine C8 (off := 2) (s := 1) (r := false) j3 kz j3 ?_
  (apply D1 (v := .int _ _) j2; exact Q0; exact C3; exact j5)
  refine K8 j3 ?_ ?_ j3 ?_
  ·omega
  ·omega
  refine V1 (q37 _ 2 kb) rfl j5 (X2 j3 ?_ j3 ?_)
  ·exact Q28
  refine C8 (off := 3) (s := 1) (r := false) j3 kz j3 ?_
  (apply D1 (v := .int _ _) j2; exact Q0; exact C3; exact j5)
  refine V1 (q37 _ 4 kb) rfl j5 (X2 j3 ?_ j3 ?_)
  ·exact Q28
  refine C8 (off := 4) (s := 1) (r := false) j3 kz j3 ?_
  (apply D1 (v := .sl _ _ _) j2; exact Q0; exact C3; exact j5)
  refine dll rfl rfl rfl j3 (V1 (q37 _ 1 kb) rfl j5 (X2 j3 ?_ j3 ?_))
  ·exact Q28
  refine X2 j3 ?_ j3 ?_
  ·exact Q28
  refine daS j5 (B3 28 [0, 0, 0, 0, 0, 1, 0, 0, 0, 1, 0, 0, 0, 0, 1, 0, 0, 0, 1, 0, 0, 1, 0, 0, 0, 1, 0, 0] [] j2 (by decide +kernel) trivial ?_)
  refine A1 (A2 (A0 (C0 (off := 4) (s := 1) (r := false) j3 kz j3 ?_)))
  (apply C6 (v := .sl _ _ _) j2; exact Q0; exact C3; exact j5)
  refine H9 rfl rfl rfl j3 (B5 j5 (A3 (A1 (B4 (F6 ?_)))))
  refine E8 (fun (c : Nat × ByteArray × Nat) => [.unk, .ptr 0 0 0, .unk, .str c.2.1, .unk, .ptr m 0 0, .unk, .unk, .unk, .unk, .unk, .unk, .unk, .unk, .unk, .unk, .unk, .unk, .unk, .unk, .unk, .unk, .unk, .sl false n1 (t.lk.map (Lk.T b)), .int .i64 (t.lk.map (Lk.T b)).length, .int .i64 i, .unk, .unk, .unk, .unk, .unk, .unk, .unk, .unk, .unk, .unk, .unk, .unk, .unk, .unk, .unk, .unk, .unk, .unk, .unk, .unk, .unk, .unk, .unk, .unk, .unk, .unk, .unk, .unk, .unk, .unk, .unk, .sl false b ((t.lk.getD i Lk0).ws.map wtT), .int .i64 ((t.lk.getD i Lk0).ws.map wtT).length, .int .i64 c.1]) (fun (c : Nat × ByteArray × Nat) => hp [(0, ⟨[[.int .i64 t.tm, .int .i64 t.nx, .sl false n1 (t.lk.map (Lk.T b)), .sl false n2 (t.sn.map Sn.T)]], 4, 35⟩)]) (fun (c : Nat × ByteArray × Nat) => c.2.2) (fun (c : Nat × ByteArray × Nat) => c.1 ≤ (t.lk.getD i Lk0).ws.length ∧ c.2.1.size ≤ 8 + 50 * i + 24 + 3 * c.1 ∧ m < c.2.2) (fun (c : Nat × ByteArray × Nat) => (t.lk.getD i Lk0).ws.length - c.1) (0, s ++ (Nm (t.lk.getD i Lk0).nm.size 1 ++ (t.lk.getD i Lk0).nm ++ Nm (t.lk.getD i Lk0).tk 3 ++ Nm ((t.lk.getD i Lk0).hd + 1) 2 ++ Nm (t.lk.getD i Lk0).ex 4 ++ Nm ((t.lk.getD i Lk0).ws.map wtT).length 1), m + 1) ?_ ?_ ?_ ?_ ?_
  ·exact ⟨Nat.zero_le _, by dsimp only; simp only [ByteArray.size_append, L4]; omega, by dsimp only; omega⟩
  ·(repeat first | exact LE.nil _ | refine LE.unk _ _ ?_ | refine LE.eq _ _ _ rfl ?_)
  ·(repeat first | exact E3 | (refine E6 ?_ ?_; exact U5))
  ·exact Nat.le_refl _
  intro ⟨j, s2, m2⟩ hI ih
  dsimp only at hI ⊢
  refine F5 (A2 (A0 ?_))
  refine I9 j6 ?_ ?_ <;> intro h7_0
  ·refine A3 (A1 (A2 (wT rfl (B2 (A1 (A2 (B4 (A2 (A0 ?_)))))))))
   (apply N6 j4; exact Q28; exact Q38; exact j4)
   refine S9 (vs := [.int _ _, .int _ _]) j3 kb j4 (H0 j6 ?_)
   (apply D2 (u := .agg [.int _ _, .int _ _]) j3; exact Q0; exact C3; rfl; rfl; rfl; rfl; exact kb; rfl; exact j2)
   refine A3 (A1 (B9 [0, 0, 2, 6, 0, 16, 62, 126, 255, 511] rfl (by decide +kernel) ?_))
   refine dmS j5 (C8 (off := 0) (s := 1) (r := false) j3 kz j3 ?_)
   (apply D1 (v := .int _ _) j2; exact Q0; exact C3; exact j5)
   refine V1 (q37 _ 1 kb) rfl j5 (C8 (off := 1) (s := 1) (r := false) j3 kz j3 ?_)
   (apply D1 (v := .int _ _) j2; exact Q0; exact C3; exact j5)
   refine V1 (q37 _ 2 kb) rfl j5 (X2 j3 ?_ j3 ?_)
   ·exact Q28
   refine X2 j3 ?_ j3 ?_
   ·exact Q28
   refine daS j5 (B3 10 [0, 0, 0, 0, 1, 0, 0, 1, 0, 0] [] j2 (by decide +kernel) trivial ?_)
   refine C2 (A1 (A0 (D0 j3 ?_ ?_ j3 ?_)))
   ·omega
   ·omega
   refine B5 j5 (A3 (E5 ?_))
   exact J7 (ih (j + 1, s2 ++ (Nm ((t.lk.getD i Lk0).ws.getD j (0, 0)).1 1 ++ Nm ((t.lk.getD i Lk0).ws.getD j (0, 0)).2 2), m2 + 1) ⟨by dsimp only; omega, by dsimp only; simp only [ByteArray.size_append, L4]; omega, by dsimp only; omega⟩ (by dsimp only; omega)) (by (repeat first | exact LE.nil _ | refine LE.unk _ _ ?_ | refine LE.eq _ _ _ rfl ?_)) (by (repeat first | exact E3 | (refine E6 ?_ ?_; exact U5))) (Nat.le_refl _)
  ·refine A3 (A1 (A2 (wF rfl (E9 (F0 (D8 (C9 (C2 (A1 (A0 (D0 j3 ?_ ?_ j3 ?_)))))))))))
   ·omega
   ·omega
   refine B5 j5 (A3 (E5 ?_))
   exact J7 (ih0 (i + 1, s2, m2) ⟨by dsimp only; omega, by dsimp only; omega, by dsimp only; omega⟩ (by dsimp only; omega)) (by (repeat first | exact LE.nil _ | refine LE.unk _ _ ?_ | refine LE.eq _ _ _ rfl ?_)) (by (repeat first | exact E3 | (refine E6 ?_ ?_; exact U5))) (Nat.le_refl _)
 ·refine A3 (A1 (A2 (wF rfl (E9 (F0 (D8 (C9 (A1 (A2 (A0 (X9 j5 (C0 (off := 3) (s := 1) (r := false) j3 kz j3 ?_))))))))))))
  (apply C6 (v := .sl _ _ _) j2; exact Q0; exact C3; exact j5)
  refine H9 rfl rfl rfl j3 (rcl (q37 _ 1 kb) rfl j5 (rcat j3 ?_ j3 ?_))
  ·exact Q28
  refine raS j5 (A3 (A1 (A2 (A2 (A0 (C0 (off := 3) (s := 1) (r := false) j3 kz j3 ?_))))))
  (apply C6 (v := .sl _ _ _) j2; exact Q0; exact C3; exact j5)
  refine H9 rfl rfl rfl j3 (B5 j5 (A3 (A1 (B4 (F6 ?_)))))
  refine E8 (fun (a : Nat × ByteArray × Nat) => [.unk, .ptr 0 0 0, .unk, .str a.2.1, .unk, .unk, .unk, .unk, .unk, .unk, .unk, .unk, .unk, .unk, .unk, .unk, .unk, .unk, .unk, .unk, .unk, .unk, .unk, .unk, .unk, .unk, .unk, .unk, .unk, .unk, .unk, .unk, .unk, .unk, .unk, .unk, .unk, .unk, .unk, .unk, .unk, .unk, .unk, .unk, .unk, .unk, .unk, .unk, .unk, .unk, .unk, .unk, .unk, .unk, .unk, .unk, .unk, .unk, .unk, .unk, .unk, .unk, .unk, .unk, .unk, .unk, .unk, .unk, .unk, .unk, .unk, .unk, .unk, .unk, .unk, .unk, .unk, .unk, .unk, .unk, .unk, .sl false n2 (t.sn.map Sn.T), .int .i64 (t.sn.map Sn.T).length, .int .i64 a.1]) (fun (a : Nat × ByteArray × Nat) => hp [(0, ⟨[[.int .i64 t.tm, .int .i64 t.nx, .sl false n1 (t.lk.map (Lk.T b)), .sl false n2 (t.sn.map Sn.T)]], 4, 35⟩)]) (fun (a : Nat × ByteArray × Nat) => a.2.2) (fun (a : Nat × ByteArray × Nat) => a.1 ≤ t.sn.length ∧ a.2.1.size ≤ 300 + 20 * a.1 ∧ 1 ≤ a.2.2) (fun (a : Nat × ByteArray × Nat) => t.sn.length - a.1) (0, s ++ Nm (t.sn.map Sn.T).length 1, m) ?_ ?_ ?_ ?_ ?_
  ·exact ⟨Nat.zero_le _, by dsimp only; simp only [ByteArray.size_append, L4]; omega, by dsimp only; omega⟩
  ·(repeat first | exact LE.nil _ | refine LE.unk _ _ ?_ | refine LE.eq _ _ _ rfl ?_)
  ·(repeat first | exact E3 | (refine E6 ?_ ?_; exact U5))
  ·exact Nat.le_refl _
  intro ⟨i, s, m⟩ hI ih
  dsimp only at hI ⊢
  have hsn : i < t.sn.length → (t.sn.getD i Sn0).an.OK := fun h => (ht.2.2.2.2.2 i h).1.2.2
  refine F5 (A2 (A0 ?_))
  refine I9 j6 ?_ ?_ <;> intro h14_0
  ·refine A3 (A1 (A2 (wT rfl (B2 (A1 (A2 (B4 (A2 (A0 ?_)))))))))
   (apply N6 j4; exact Q28; exact Q38; exact j4)
   refine S9 (vs := [.int _ _, .int _ _, .int _ _, .int _ _, .int _ _, .int _ _]) j3 kb j4 (H0 j6 ?_)
   (apply D2 (u := .agg [.int _ _, .int _ _, .int _ _, .int _ _, .int _ _, .int _ _]) j3; exact Q0; exact C3; rfl; rfl; rfl; rfl; exact kb; rfl; exact j2)
   refine A3 (A1 (B9 [0, 0, 2, 6, 0, 16, 62, 126, 0, 256, 894, 2046, 4095, 8191] rfl (by decide +kernel) ?_))
   refine dmS j5 (C8 (off := 0) (s := 1) (r := false) j3 kz j3 ?_)
   (apply D1 (v := .int _ _) j2; exact Q0; exact C3; exact j5)
   refine V1 (q37 _ 1 kb) rfl j5 (C8 (off := 1) (s := 1) (r := false) j3 kz j3 ?_)
   (apply D1 (v := .int _ _) j2; exact Q0; exact C3; exact j5)
   refine V1 (q37 _ 2 kb) rfl j5 (X2 j3 ?_ j3 ?_)
   ·exact Q28
   refine C8 (off := 2) (s := 4) (r := true) j3 kz j3 ?_
   (apply N5 (vs := [.int _ _, .int _ _, .int _ _, .int _ _]) j2; exact Q0; exact C3; rfl; exact kb; exact j4)
   refine V1 (p38 (t.sn.getD i Sn0).an (hsn (by omega))) rfl j5 ?_
   refine X2 j3 ?_ j3 ?_
   ·exact Q28
   refine X2 j3 ?_ j3 ?_
   ·exact Q28
   refine daS j5 (B3 14 [0, 0, 0, 0, 1, 0, 0, 0, 1, 0, 0, 1, 0, 0] [] j2 (by decide +kernel) trivial ?_)
   refine C2 (A1 (A0 (D0 j3 ?_ ?_ j3 ?_)))
   ·omega
   ·omega
   refine B5 j5 (A3 (E5 ?_))
   exact J7 (ih (i + 1, s ++ (Nm (t.sn.getD i Sn0).cl 1 ++ Nm (t.sn.getD i Sn0).st 2 ++ atx (t.sn.getD i Sn0).an), m + 1) ⟨by dsimp only; omega, by dsimp only; simp only [ByteArray.size_append, L4, atx_size]; omega, by dsimp only; omega⟩ (by dsimp only; omega)) (by (repeat first | exact LE.nil _ | refine LE.unk _ _ ?_ | refine LE.eq _ _ _ rfl ?_)) (by (repeat first | exact E3 | (refine E6 ?_ ?_; exact U5))) (Nat.le_refl _)
  ·refine A3 (A1 (A2 (wF rfl (E9 (F0 (D8 (C9 (A1 (A2 (A0 (X9 j5 (raS j5 ?_))))))))))))
   refine A3 (A1 (B1 ?_))
   exact ⟨_, trivial, fin rfl rfl⟩
open Go.V
set_option linter.unusedVariables false
set_option linter.unusedSimpArgs false
set_option maxRecDepth 20000
set_option maxHeartbeats 4000000
theorem s32 (t : Tb) (b n1 n2 : Bool) (ht : t.OK) : Pure En 32 [.agg (t.T b n1 n2), .agg (t.T b n1 n2)] [.one (.bool true), .one (.int .i64 0)] := by
 obtain ⟨s, _, hs⟩ := s75 t b n1 n2 ht
 refine Pure.of_wp Try.func32 rfl kb ?_
 refine A2 (A0 ?_)
 (refine J6 (u := .agg [.int .i64 t.tm, .int .i64 t.nx, .sl false n1 (t.lk.map (Lk.T b)), .sl false n2 (t.sn.map Sn.T)]) j3 rfl j3 ?_)
 (refine J6 (u := .agg [.int .i64 t.tm, .int .i64 t.nx, .sl false n1 (t.lk.map (Lk.T b)), .sl false n2 (t.sn.map Sn.T)]) j3 rfl j3 ?_)
 refine C4 j5 (D7 j5 (A3 (A1 (A2 (A2 (A0 ?_))))))
 (apply F8 (vs := [.int _ _, .int _ _, _, _]) j2; exact Q0; exact C3; rfl; exact kb; rfl; exact j3)
 refine E7 (p23 t b n1 n2) rfl j5 ?_ ?_ <;> intro h1_1
 ·refine D5 (c := true) j5 (C7 j5 ?_)
  (apply F8 (vs := [.int _ _, .int _ _, _, _]) j2; exact Q0; exact C3; rfl; exact kb; rfl; exact j3)
  refine E7 (p23 t b n1 n2) rfl j5 ?_ ?_ <;> intro h1_5
  ·refine D5 (c := true) j5 (B7 (e := false) j6 (A3 (A1 (wF rfl (B2 (A1 (A2 (B9 [0, 1, 0, 7, 15, 31, 63] rfl (by decide +kernel) ?_))))))))
   (apply N5 (vs := [.int _ _, .int _ _, _, _]) j2; exact Q0; exact C3; rfl; exact kb; exact j4)
   refine V1 hs rfl j5 ?_
   (apply N5 (vs := [.int _ _, .int _ _, _, _]) j2; exact Q0; exact C3; rfl; exact kb; exact j4)
   refine V1 hs rfl j5 ?_
   refine dseq j6 ?_ (fun h => absurd (rfl) h)
   intro h3_4
   refine P6 j5 (daI j5 (B3 7 [0, 0, 0, 0, 1, 0, 1] [] j2 (by decide +kernel) trivial ?_))
   refine A1 (B1 ?_)
   exact fin rfl rfl
  ·refine D5 (c := false) j5 (B7 (e := true) j6 (A3 (A1 (wT rfl (A2 ?_)))))
   first | exact absurd ht h1_1 | exact absurd ht h1_5
 ·refine D5 (c := false) j5 (C7 j5 (A4 j3 (A4 j3 (A4 j3 (B7 (e := true) j6 (A3 (A1 (wT rfl (A2 ?_)))))))))
  first | exact absurd ht h1_1 | exact absurd ht h1_5
open Go.V
set_option linter.unusedVariables false
set_option linter.unusedSimpArgs false
set_option maxRecDepth 20000
set_option maxHeartbeats 4000000
theorem rowsBf (fr : Bool) (B : List Int) : ((B.map bT).map fun r => r.map (T.toV fr)) = B.map bV := by rw [List.map_map]; rfl
theorem snapB {h : Heap} {ids : List Nat} {r : Bool} {id m : Nat} {B : List Int} (hid : id ∈ ids) (hb : h id = some ⟨B.map bV, 1, 5⟩) (hm : m = B.length) : Snap h ids r (.view id 0 m) (.sl true (B.map bT)) :=
 L7 (B.map bT) hid hb (rowsBf true B).symm (by rw [List.length_map]; exact hm)
theorem wrap_nn (a : Int) : 0 ≤ IntKind.u64.wrap a := by
 show 0 ≤ a % (2 ^ 64 : Int)
 exact Int.emod_nonneg _ (by decide)
def bt8 (x i : Int) : Int := IntKind.u8.wrap (x.fdiv (2 ^ (min (IntKind.u64.wrap (8 * i)).toNat IntKind.i64.bits)))
structure NbS where
 i : Int
 ln : Nat
 R : List Int
 id : Nat
 m : Nat
 g : Heap
structure NbI (m n : Nat) (h0 : Heap) (a : NbS) : Prop where
 i : -1 ≤ a.i ∧ a.i ≤ (m : Int) - 1
 ln : a.ln = ((m : Int) - 1 - a.i).toNat
 lR : a.R.length = a.ln
 g : a.g a.id = some ⟨a.R.map bV, 1, 5⟩
 id : n ≤ a.id ∧ a.id < a.m
 ch : Ch h0 a.g
theorem s139 (x : Int) (m : Nat) (hm : m ≤ 8) : ∃ R : List Int, R.length = m ∧ Pure En 139 [.one (.int .i64 x), .one (.int .i64 m)] [.one (.sl true (R.map bT))] := by
 refine Pure.of_wpX Try.func139 rfl kb ?_
 refine A2 (A0 (raN j5 (A3 (A1 (A2 (A0 (X3 (es := []) j4 kz kb rfl rfl j3 (V9 j5 (A3 (A1 (A2 (A2 ?_))))))))))))
 refine A0 (B5 j5 (O9 j3 ?_ ?_ j3 ?_))
 ·exact Q31
 ·exact Q31
 refine D7 j5 (A3 (A1 (B4 (F6 ?_))))
 refine wlG fun g0 hg0 => ?_
 refine E8 (fun (a : NbS) => [.int .i64 x, .unk, .unk, .unk, .unk, .view a.id 0 a.ln, .int .i64 a.i]) (fun (a : NbS) => a.g) (fun (a : NbS) => a.m) (fun (a : NbS) => NbI m 0 (fun _ => none) a) (fun (a : NbS) => (a.i + 1).toNat) ⟨(m : Int) - 1, 0, [], 0, 0 + 1, g0⟩ ?_ ?_ ?_ ?_ ?_
 ·refine ⟨by dsimp only; omega, by dsimp only; omega, rfl, ?_, by dsimp only; omega, ?_⟩
  ·dsimp only; rw [hg0]; exact Q0
  ·dsimp only; rw [hg0]; (repeat first | exact Ch.refl _ | refine Ch.upd ?_ | refine Ch.app ?_ | assumption)
 ·(repeat first | exact LE.nil _ | refine LE.unk _ _ ?_ | refine LE.eq _ _ _ rfl ?_)
 ·exact LessH.refl _
 ·exact Nat.le_refl _
 intro ⟨i, ln, R, id, m1, g⟩ hI ih
 have q1 := hI.i
 have q2 := hI.ln
 have q3 := hI.lR
 have q4 := hI.g
 have q5 := hI.id
 dsimp only at q1 q2 q3 q4 q5 ⊢
 refine F5 (A2 (A2 (A0 (B5 j5 ?_))))
 refine rge j6 ?_ ?_ <;> intro h3_1
 ·refine A3 (A1 (wT rfl (B2 (A1 (A2 (B4 (A0 (K0 j5 (B5 j5 (B5 j5 (rmulF j3 ?_ ?_ j3 ?_)))))))))))
  ·exact Q31
  ·exact Q31
  refine rcv j7 (rshr j3 ?_ j3 ?_)
  ·exact Q31
  refine rcv j7 (X3 (es := [[.int _ _]]) j4 kz kb rfl rfl j3 ?_)
  (apply rap (s' := 1) (es := [[.int _ _]]) rfl rfl; exact Q0; exact j2; (first | rfl | omega | (rw [List.length_map]; omega)); exact j2; exact kz; exact U7; exact Q18; exact Q32; exact Q32; exact j3)
  refine V9 j5 (A3 (C2 (A1 ?_)))
  refine W6 fun G hG => ?_
  refine A0 (B5 j5 (O9 j3 ?_ ?_ j3 ?_))
  ·exact Q31
  ·exact Q31
  refine D7 j5 (A3 (E5 ?_))
  refine J7 (ih ⟨i - 1, ln + 1, R ++ [bt8 x i], m1 + 1, m1 + 1 + 1, G⟩ ⟨by dsimp only; omega, by dsimp only; omega, by dsimp only; rw [List.length_append, q3]; rfl, ?_, by dsimp only; omega, ?_⟩ (by dsimp only; omega)) (by (repeat first | exact LE.nil _ | refine LE.unk _ _ ?_ | refine LE.eq _ _ _ rfl ?_)) (LessH.refl _) (Nat.le_refl _)
  ·dsimp only; rw [hG, List.map_append]; exact Q0
  ·dsimp only; refine hI.ch.trans ?_; rw [hG]; (repeat first | exact Ch.refl _ | refine Ch.upd ?_ | refine Ch.app ?_ | assumption)
 ·refine A3 (A1 (wF rfl (E9 (F0 (D8 (C9 (A1 (A2 (A0 (K0 j5 (V9 j5 (A3 ?_))))))))))))
  refine A1 (B1 ?_)
  refine ⟨R, by omega, X4 (xs := [.view id 0 ln]) [id] rfl (.cons _ _ _ _ (.one _ _ (snapB (List.mem_singleton.2 rfl) q4 q3.symm)) .nil)⟩
theorem nb_ex (x : Int) (m : Nat) : ∃ R : List Int, R.length = m ∧ (m ≤ 8 → Pure En 139 [.one (.int .i64 x), .one (.int .i64 m)] [.one (.sl true (R.map bT))]) := by
 by_cases h : m ≤ 8
 ·obtain ⟨s, h1, h2⟩ := s139 x m h
  exact ⟨s, h1, fun _ => h2⟩
 ·exact ⟨List.replicate m 0, List.length_replicate .., fun h' => absurd h' h⟩
noncomputable def Nb (x : Int) (m : Nat) : List Int := Classical.choose (nb_ex x m)
theorem N2 (x : Int) (m : Nat) : (Nb x m).length = m := (Classical.choose_spec (nb_ex x m)).1
theorem q139 (x : Int) (m : Nat) (h : m ≤ 8) : Pure En 139 [.one (.int .i64 x), .one (.int .i64 m)] [.one (.sl true ((Nb x m).map bT))] := (Classical.choose_spec (nb_ex x m)).2 h
theorem o139m (x : Int) (m : Nat) (hm : m ≤ 8) (n : Nat) : OpenM En 139 [.int .i64 x, .int .i64 m] (fun _ => none) n (fun v g m1 => ∃ (R : List Int) (id : Nat), R.length = m ∧ g id = some ⟨R.map bV, 1, 5⟩ ∧ (n ≤ id ∧ id < m1) ∧ v = .view id 0 m) := by
 refine OpenM.of_wp Try.func139 rfl kb ?_
 refine A2 (A0 (raN j5 (A3 (A1 (A2 (A0 (X3 (es := []) j4 kz kb rfl rfl j3 (V9 j5 (A3 (A1 (A2 (A2 ?_))))))))))))
 refine A0 (B5 j5 (O9 j3 ?_ ?_ j3 ?_))
 ·exact Q31
 ·exact Q31
 refine D7 j5 (A3 (A1 (B4 (F6 ?_))))
 refine wlG fun g0 hg0 => ?_
 refine E8 (fun (a : NbS) => [.int .i64 x, .unk, .unk, .unk, .unk, .view a.id 0 a.ln, .int .i64 a.i]) (fun (a : NbS) => a.g) (fun (a : NbS) => a.m) (fun (a : NbS) => NbI m n (fun _ => none) a) (fun (a : NbS) => (a.i + 1).toNat) ⟨(m : Int) - 1, 0, [], n, n + 1, g0⟩ ?_ ?_ ?_ ?_ ?_
 ·refine ⟨by dsimp only; omega, by dsimp only; omega, rfl, ?_, by dsimp only; omega, ?_⟩
  ·dsimp only; rw [hg0]; exact Q0
  ·dsimp only; rw [hg0]; (repeat first | exact Ch.refl _ | refine Ch.upd ?_ | refine Ch.app ?_ | assumption)
 ·(repeat first | exact LE.nil _ | refine LE.unk _ _ ?_ | refine LE.eq _ _ _ rfl ?_)
 ·exact LessH.refl _
 ·exact Nat.le_refl _
 intro ⟨i, ln, R, id, m1, g⟩ hI ih
 have q1 := hI.i
 have q2 := hI.ln
 have q3 := hI.lR
 have q4 := hI.g
 have q5 := hI.id
 dsimp only at q1 q2 q3 q4 q5 ⊢
 refine F5 (A2 (A2 (A0 (B5 j5 ?_))))
 refine rge j6 ?_ ?_ <;> intro h3_1
 ·refine A3 (A1 (wT rfl (B2 (A1 (A2 (B4 (A0 (K0 j5 (B5 j5 (B5 j5 (rmulF j3 ?_ ?_ j3 ?_)))))))))))
  ·exact Q31
  ·exact Q31
  refine rcv j7 (rshr j3 ?_ j3 ?_)
  ·exact Q31
  refine rcv j7 (X3 (es := [[.int _ _]]) j4 kz kb rfl rfl j3 ?_)
  (apply rap (s' := 1) (es := [[.int _ _]]) rfl rfl; exact Q0; exact j2; (first | rfl | omega | (rw [List.length_map]; omega)); exact j2; exact kz; exact U7; exact Q18; exact Q32; exact Q32; exact j3)
  refine V9 j5 (A3 (C2 (A1 ?_)))
  refine W6 fun G hG => ?_
  refine A0 (B5 j5 (O9 j3 ?_ ?_ j3 ?_))
  ·exact Q31
  ·exact Q31
  refine D7 j5 (A3 (E5 ?_))
  refine J7 (ih ⟨i - 1, ln + 1, R ++ [bt8 x i], m1 + 1, m1 + 1 + 1, G⟩ ⟨by dsimp only; omega, by dsimp only; omega, by dsimp only; rw [List.length_append, q3]; rfl, ?_, by dsimp only; omega, ?_⟩ (by dsimp only; omega)) (by (repeat first | exact LE.nil _ | refine LE.unk _ _ ?_ | refine LE.eq _ _ _ rfl ?_)) (LessH.refl _) (Nat.le_refl _)
  ·dsimp only; rw [hG, List.map_append]; exact Q0
  ·dsimp only; refine hI.ch.trans ?_; rw [hG]; (repeat first | exact Ch.refl _ | refine Ch.upd ?_ | refine Ch.app ?_ | assumption)
 ·refine A3 (A1 (wF rfl (E9 (F0 (D8 (C9 (A1 (A2 (A0 (K0 j5 (V9 j5 (A3 ?_))))))))))))
  refine A1 (B1 (D9 (xs := [.view id 0 ln]) rfl hI.ch ⟨R, id, by omega, q4, by omega, ?_⟩))
  show V.view id 0 ln = _; rw [show ln = m by omega]
theorem o139 (x : Int) (m : Nat) (hm : m ≤ 8) (n : Nat) : ∃ (R : List Int) (id e : Nat), R.length = m ∧ (n ≤ id ∧ id < e) ∧ V.Open En 139 [.int .i64 x, .int .i64 m] (fun _ => none) n (.view id 0 m) [(id, some ⟨R.map bV, 1, 5⟩)] e := by
 obtain ⟨⟨v, wr, e⟩, ⟨R, id, h1, h2, h3, h4⟩, hO⟩ := o139m x m hm n
 dsimp only at h1 h2 h3 h4 hO
 subst h4
 refine ⟨R, id, e, h1, h3, V.Open.lessF hO fun i b hb => ?_⟩
 have hb : upd (fun _ => none) id (some ⟨R.map bV, 1, 5⟩) i = some b := hb
 by_cases e1 : i = id
 ·subst e1
  rw [upd_same] at hb
  cases hb
  refine ⟨_, h2, ?_⟩
  show _ = Blk.mk ((R.map bV).map (·.map fl1)) 1 5
  rw [List.map_map]; rfl
 ·rw [B8 _ _ e1] at hb; cases hb
open Go.V
set_option linter.unusedVariables false
set_option linter.unusedSimpArgs false
set_option maxRecDepth 20000
set_option maxHeartbeats 4000000
def isB (z : List (List V)) : Prop := ∃ R : List Int, z = R.map bV
theorem Y9 {a b : List (List V)} (h : isB a) (k : isB b) : isB (a ++ b) := by
 obtain ⟨R, rfl⟩ := h; obtain ⟨S, rfl⟩ := k; exact ⟨R ++ S, List.map_append.symm⟩
theorem Z0 (x : Int) : isB [[.int .u8 x]] := ⟨[x], rfl⟩
theorem AI {x : Int} {k : Nat} : isB (((Nb x k).map bT).map (·.map (T.toV true))) := ⟨_, rowsBf true _⟩
theorem V7 {s : ByteArray} : isB (s.data.toList.map fun b => [.int .u8 b.toNat]) := ⟨s.data.toList.map fun b => (b.toNat : Int), by rw [List.map_map]; rfl⟩
theorem J2 (s : ByteArray) : (s.data.toList.map fun b => [V.int .u8 (b.toNat : Int)]).length = s.size := by rw [List.length_map]; rfl
theorem isB_len {z : List (List V)} (h : isB z) : ∀ c ∈ z, c.length = 1 := by
 obtain ⟨R, rfl⟩ := h
 intro c hc
 obtain ⟨x, _, rfl⟩ := List.mem_map.1 hc
 rfl
@[reducible] noncomputable def nbL (x : Int) (k : Nat) : List (List V) := ((Nb x k).map bT).map (·.map (T.toV true))
@[reducible] def strL (s : ByteArray) : List (List V) := s.data.toList.map fun b => [V.int .u8 (b.toNat : Int)]
theorem flatOne {id : Nat} {R : List Int} : ∀ i b, app [(id, some ⟨R.map bV, 1, 5⟩)] (fun _ => none) i = some b → ∀ e ∈ b.es, ∀ x ∈ e, x.flat = true := by
 intro i b hb e he x hx
 have hb : upd (fun _ => none) id (some ⟨R.map bV, 1, 5⟩) i = some b := hb
 by_cases e1 : i = id
 ·rw [e1, upd_same] at hb
  cases hb
  obtain ⟨y, _, rfl⟩ := List.mem_map.1 he
  rw [List.mem_singleton.1 hx]; rfl
 ·exact absurd ((B8 _ _ e1).symm.trans hb) nofun
theorem I4 (s : ByteArray) : s.data.toList.length = s.size := rfl
structure BtS where
 i : Nat
 ln : Nat
 id : Nat
 m : Nat
 g : Heap
structure BtI (B : Nat) (tb : Blk) (a : BtS) : Prop where
 ln : a.ln ≤ B
 R : ∃ R : List (List V), a.g a.id = some ⟨R, 1, 5⟩ ∧ isB R ∧ R.length = a.ln
 g0 : a.g 0 = some tb
 id : 1 ≤ a.id ∧ a.id < a.m
theorem s114 (t : Tb) (b n1 n2 : Bool) (ht : t.OK) : ∃ R : List Int, True ∧ Pure En 114 [.agg (t.T b n1 n2)] [.one (.sl true (R.map bT))] := by
 have h1 := ht.2.2.1
 have h2 := ht.2.2.2.1
 have hl1 : (t.lk.map (Lk.T b)).length = t.lk.length := List.length_map ..
 have hl2 : (t.sn.map Sn.T).length = t.sn.length := List.length_map ..
 refine Pure.of_wpX Try.func114 rfl kb ?_
 refine A2 (A0 ?_)
 (refine J6 (u := .agg [.int .i64 t.tm, .int .i64 t.nx, .sl false n1 (t.lk.map (Lk.T b)), .sl false n2 (t.sn.map Sn.T)]) j3 rfl j3 ?_)
 refine raN j5 (A3 (A1 (A2 ?_)))
 obtain ⟨R0, id0, e0, z1, z2, O0⟩ := o139 t.tm 4 kb (0 + 1)
 refine B9 [0, 1, 3, 0, 8, 31, 63, 127] rfl (by decide +kernel) ?_
 refine C8 (off := 0) (s := 1) (r := false) j3 kz j3 ?_
 (apply D1 (v := .int _ _) j2; exact Q0; exact C3; exact j5)
 (apply dfr O0 rfl j2; (intro x hx; simp only [List.mem_cons, List.not_mem_nil, or_false] at hx; rcases hx with rfl | rfl <;> rfl); rfl; exact flatOne; exact List.cons_ne_nil _ _; exact j3)
 refine C8 (off := 1) (s := 1) (r := false) j3 kz j3 ?_
 (apply D1 (v := .int _ _) j2; exact Q0; exact C3; exact j5)
 refine V1 (q139 _ 3 kb) rfl j5 ?_
 (apply U6 (s' := 1)  rfl rfl; exact Q0; exact j2; exact Q20; exact j2; exact kz; exact U7; exact Q16; exact Q8; exact Q8; exact j3)
 refine daV j5 (B3 8 [0, 3, 0, 1, 0, 3, 1, 0] [(2, 4)] j2 (by decide +kernel) ?_ ?_)
 ·exact Q33
 refine A1 (A2 (A0 (K0 j5 (C0 (off := 2) (s := 1) (r := false) j3 kz j3 ?_))))
 (apply C6 (v := .sl _ _ _) j2; exact Q0; exact C3; exact j5)
 refine H9 rfl rfl rfl j3 (rcv j7 (X3 (es := [[.int _ _]]) j4 kz kb rfl rfl j3 ?_))
 (apply rap (s' := 1) (es := [[.int _ _]]) rfl rfl; exact Q0; exact j2; exact Q20; exact j2; exact kz; exact U7; exact Q16; exact Q8; exact Q8; exact j3)
 refine V9 j5 (A3 (A1 (A2 (A2 (A0 (D7 j5 (A3 (A1 (B4 (F6 ?_))))))))))
 refine wlG fun g0 hg0 => ?_
 have hb0 : isB (R0.map bV) := ⟨_, rfl⟩
 refine E8 (fun (a : BtS) => [.unk, .ptr 0 0 0, .unk, .view a.id 0 a.ln, .int .i64 a.i]) (fun (a : BtS) => a.g) (fun (a : BtS) => a.m) (fun (a : BtS) => a.i ≤ t.lk.length ∧ BtI (10 + 50 * a.i) ⟨[[.int .i64 t.tm, .int .i64 t.nx, .sl false n1 (t.lk.map (Lk.T b)), .sl false n2 (t.sn.map Sn.T)]], 4, 35⟩ a) (fun (a : BtS) => t.lk.length - a.i) ⟨0, 4 + (nbL t.nx 3).length + 1, e0 + 1 + 1, e0 + 1 + 1 + 1, g0⟩ ?_ ?_ ?_ ?_ ?_
 ·refine ⟨Nat.zero_le _, ?_⟩
  refine ⟨?_, ⟨_, (by rw [hg0]; exact Q0), ?_, ?_⟩, (by rw [hg0]; exact Q0), (by dsimp only; omega)⟩
  ·(try dsimp only); (try simp only [List.drop_zero, List.length_append, List.length_cons, List.length_nil, List.length_map, N2, J2, I4]); omega
  ·(try simp only [List.drop_zero]); (repeat first | assumption | exact Z0 _ | exact AI | exact V7 | apply Y9)
  ·(try dsimp only); (try simp only [List.drop_zero, List.length_append, List.length_cons, List.length_nil, List.length_map, N2, J2, I4]); omega
 ·(repeat first | exact LE.nil _ | refine LE.unk _ _ ?_ | refine LE.eq _ _ _ rfl ?_)
 ·exact LessH.refl _
 ·exact Nat.le_refl _
 intro ⟨i, ln, id, m, g⟩ hI ih
 have ih0 := ih
 have q0 := hI.1
 have q1 := hI.2.ln
 obtain ⟨R, q2, q3, q4⟩ := hI.2.R
 have q5 := hI.2.g0
 have q6 := hI.2.id
 dsimp only at q0 q1 q2 q4 q5 q6 ⊢
 have hl5 : ((t.lk.getD i Lk0).ws.map wtT).length = (t.lk.getD i Lk0).ws.length := List.length_map ..
 have hln : i < t.lk.length → (t.lk.getD i Lk0).nm.size ≤ 12 ∧ (t.lk.getD i Lk0).ws.length ≤ 4 ∧ (-1 ≤ (t.lk.getD i Lk0).hd ∧ (t.lk.getD i Lk0).hd ≤ 255) := fun h => ⟨(ht.2.2.2.2.1 i h).1.1.1, OKw ht h, (ht.2.2.2.2.1 i h).1.2.2.1⟩
 refine F5 (A2 (A2 (A0 (B5 j5 (C0 (off := 2) (s := 1) (r := false) j3 kz j3 ?_)))))
 (apply C6 (v := .sl _ _ _) j2; exact Q0; exact C3; exact j5)
 refine H9 rfl rfl rfl j3 ?_
 refine I9 j6 ?_ ?_ <;> intro h4_4
 ·refine A3 (A1 (wT rfl (B2 (A1 (A2 (B4 (A2 (A0 (C0 (off := 2) (s := 1) (r := false) j3 kz j3 ?_)))))))))
  (apply C6 (v := .sl _ _ _) j2; exact Q0; exact C3; exact j5)
  refine B5 j5 ?_
  (apply N6 j4; exact X5; exact Q38; exact j4)
  refine S9 (vs := [.str _, .int _ _, .int _ _, .int _ _, _]) j3 kb j4 (H0 j6 ?_)
  (apply D2 (u := .agg [.str _, .int _ _, .int _ _, .int _ _, _]) j3; exact Q0; exact C3; rfl; rfl; rfl; rfl; exact kb; rfl; exact j2)
  refine A3 (A1 (A2 ?_))
  have hl3 := hln (by omega)
  refine B9 [0, 0, 2, 6, 14, 30, 63, 0, 128, 511, 1023] rfl (by decide +kernel) ?_
  refine dmV j5 (C8 (off := 0) (s := 1) (r := false) j3 kz j3 ?_)
  (apply D1 (v := .str _) j2; exact Q0; exact C3; exact j5)
  refine dls rfl j5 (dcv j7 (AN (es := [[.int _ _]]) j4 kz kb rfl rfl j3 ?_))
  (apply U6 (s' := 1) (es := [[.int _ _]]) rfl rfl; exact Q0; exact j2; exact Q20; exact j2; exact kz; exact U7; exact Q16; exact Q8; exact Q8; exact j3)
  refine C8 (off := 0) (s := 1) (r := false) j3 kz j3 ?_
  (apply D1 (v := .str _) j2; exact Q0; exact C3; exact j5)
  (apply U6 (s' := 1)  rfl rfl; exact Q0; exact j2; exact Q20; exact j2; exact kz; exact U7; exact Q16; exact Q8; exact Q8; exact j3)
  refine daV j5 (B3 11 [0, 3, 1, 0, 3, 3, 0, 0, 1, 0, 0] [(5, 8), (6, 8)] j2 (by decide +kernel) ?_ ?_)
  ·exact Q33
  refine A1 (A2 (B9 [0, 0, 2, 6, 15, 0, 32, 96, 255, 511, 1023] rfl (by decide +kernel) ?_))
  refine dmV j5 (C8 (off := 1) (s := 1) (r := false) j3 kz j3 ?_)
  (apply D1 (v := .int _ _) j2; exact Q0; exact C3; exact j5)
  refine V1 (q139 _ 3 kb) rfl j5 ?_
  (apply U6 (s' := 1)  rfl rfl; exact Q0; exact j2; exact Q20; exact j2; exact kz; exact U7; exact Q16; exact Q8; exact Q8; exact j3)
  refine C8 (off := 2) (s := 1) (r := false) j3 kz j3 ?_
  (apply D1 (v := .int _ _) j2; exact Q0; exact C3; exact j5)
  refine K8 j3 ?_ ?_ j3 ?_
  ·omega
  ·omega
  refine V1 (q139 _ 2 kb) rfl j5 ?_
  (apply U6 (s' := 1)  rfl rfl; exact Q0; exact j2; exact Q20; exact j2; exact kz; exact U7; exact Q16; exact Q8; exact Q8; exact j3)
  refine daV j5 (B3 11 [0, 3, 0, 0, 1, 0, 3, 0, 1, 0, 0] [(4, 6)] j2 (by decide +kernel) ?_ ?_)
  ·exact Q33
  refine A1 (A2 (B9 [0, 0, 2, 6, 15, 0, 32, 96, 224, 480, 1023, 2047] rfl (by decide +kernel) ?_))
  refine dmV j5 (C8 (off := 3) (s := 1) (r := false) j3 kz j3 ?_)
  (apply D1 (v := .int _ _) j2; exact Q0; exact C3; exact j5)
  refine V1 (q139 _ 4 kb) rfl j5 ?_
  (apply U6 (s' := 1)  rfl rfl; exact Q0; exact j2; exact Q20; exact j2; exact kz; exact U7; exact Q16; exact Q8; exact Q8; exact j3)
  refine C8 (off := 4) (s := 1) (r := false) j3 kz j3 ?_
  (apply D1 (v := .sl _ _ _) j2; exact Q0; exact C3; exact j5)
  refine dll rfl rfl rfl j3 (dcv j7 (AN (es := [[.int _ _]]) j4 kz kb rfl rfl j3 ?_))
  (apply U6 (s' := 1) (es := [[.int _ _]]) rfl rfl; exact Q0; exact j2; exact Q20; exact j2; exact kz; exact U7; exact Q16; exact Q8; exact Q8; exact j3)
  refine daV j5 (B3 12 [0, 3, 3, 0, 0, 1, 0, 3, 0, 1, 0, 0] [(4, 6), (2, 9), (4, 9)] j2 (by decide +kernel) ?_ ?_)
  ·exact Q33
  refine A1 (A2 (A0 (D7 j5 (A3 (A1 (B4 (F6 ?_)))))))
  refine wlG fun g1 hg1 => ?_
  refine E8 (fun (c : BtS) => [.unk, .ptr 0 0 0, .unk, .view c.id 0 c.ln, .int .i64 i, .ptr m 0 0, .int .i64 c.i]) (fun (c : BtS) => c.g) (fun (c : BtS) => c.m) (fun (c : BtS) => c.i ≤ (t.lk.getD i Lk0).ws.length ∧ BtI (10 + 50 * i + 24 + 3 * c.i) ⟨[[.int .i64 t.tm, .int .i64 t.nx, .sl false n1 (t.lk.map (Lk.T b)), .sl false n2 (t.sn.map Sn.T)]], 4, 35⟩ c ∧ c.g m = some ⟨[[.str (t.lk.getD i Lk0).nm, .int .i64 (t.lk.getD i Lk0).tk, .int .i64 (t.lk.getD i Lk0).hd, .int .i64 (t.lk.getD i Lk0).ex, .sl false b ((t.lk.getD i Lk0).ws.map wtT)]], 5, 29⟩ ∧ m < c.id) (fun (c : BtS) => (t.lk.getD i Lk0).ws.length - c.i) ⟨0, ln + 1 + (strL (t.lk.getD i Lk0).nm).length + (nbL (t.lk.getD i Lk0).tk 3).length + (nbL ((t.lk.getD i Lk0).hd + 1) 2).length + (nbL (t.lk.getD i Lk0).ex 4).length + 1, m + 1 + 1 + 1 + 1 + 1 + 1 + 1 + 1, m + 1 + 1 + 1 + 1 + 1 + 1 + 1 + 1 + 1, g1⟩ ?_ ?_ ?_ ?_ ?_
  ·refine ⟨Nat.zero_le _, ?_, (by dsimp only; rw [hg1]; exact Q0), by dsimp only; omega⟩
   refine ⟨?_, ⟨_, (by rw [hg1]; exact Q0), ?_, ?_⟩, (by rw [hg1]; exact Q0), (by dsimp only; omega)⟩
   ·(try dsimp only); (try simp only [List.drop_zero, List.length_append, List.length_cons, List.length_nil, List.length_map, N2, J2, I4]); omega
   ·(try simp only [List.drop_zero]); (repeat first | assumption | exact Z0 _ | exact AI | exact V7 | apply Y9)
   ·(try dsimp only); (try simp only [List.drop_zero, List.length_append, List.length_cons, List.length_nil, List.length_map, N2, J2, I4]); omega
  ·(repeat first | exact LE.nil _ | refine LE.unk _ _ ?_ | refine LE.eq _ _ _ rfl ?_)
  ·exact LessH.refl _
  ·exact Nat.le_refl _
  intro ⟨j, ln2, id2, m2, g2⟩ hI ih
  have p0 := hI.1
  have p1 := hI.2.1.ln
  obtain ⟨R2, p2, p3, p4⟩ := hI.2.1.R
  have p5 := hI.2.1.g0
  have p6 := hI.2.1.id
  have p7 := hI.2.2.1
  have p8 := hI.2.2.2
  dsimp only at p0 p1 p2 p4 p5 p6 p7 p8 ⊢
  refine F5 (A2 (A2 (A0 (B5 j5 (C0 (off := 4) (s := 1) (r := false) j3 kz j3 ?_)))))
  (apply C6 (v := .sl _ _ _) j2; exact Q0; exact C3; exact j5)
  refine H9 rfl rfl rfl j3 ?_
  refine I9 j6 ?_ ?_ <;> intro h11_4
  ·refine A3 (A1 (wT rfl (B2 (A1 (A2 (B4 (B9 [0, 0, 2, 0, 14, 30, 62, 126, 254, 511, 0, 1024, 0, 7168, 15360, 31744, 65535, 131071, 262143] rfl (by decide +kernel) ?_)))))))
   refine dmV j5 (C8 (off := 4) (s := 1) (r := false) j3 kz j3 ?_)
   (apply D1 (v := .sl _ _ _) j2; exact Q0; exact C3; exact j5)
   refine I8 j5 ?_
   (apply Z8 j4; exact X5; exact Q38; exact j4)
   refine dfai (off := 0) (s := 1) (r := false) j3 kz j4 (AM (v := .int _ _) j8 (dcv j7 (AN (es := [[.int _ _]]) j4 kz kb rfl rfl j3 ?_)))
   (apply U6 (s' := 1) (es := [[.int _ _]]) rfl rfl; exact Q0; exact j2; exact Q20; exact j2; exact kz; exact U7; exact Q16; exact Q8; exact Q8; exact j3)
   refine C8 (off := 4) (s := 1) (r := false) j3 kz j3 ?_
   (apply D1 (v := .sl _ _ _) j2; exact Q0; exact C3; exact j5)
   refine I8 j5 ?_
   (apply Z8 j4; exact X5; exact Q38; exact j4)
   refine dfai (off := 1) (s := 1) (r := false) j3 kz j4 (AM (v := .int _ _) j8 (V1 (q139 _ 2 kb) rfl j5 ?_))
   (apply U6 (s' := 1)  rfl rfl; exact Q0; exact j2; exact Q20; exact j2; exact kz; exact U7; exact Q16; exact Q8; exact Q8; exact j3)
   refine daV j5 (B3 19 [0, 3, 0, 0, 0, 0, 0, 1, 0, 3, 3, 0, 0, 0, 0, 0, 1, 0, 0] [(8, 11), (9, 11)] j2 (by decide +kernel) ?_ ?_)
   ·exact Q33
   refine C2 (A1 ?_)
   refine W6 fun G2 hG2 => ?_
   refine A0 (B5 j5 (D0 j3 ?_ ?_ j3 ?_))
   ·omega
   ·omega
   refine D7 j5 (A3 (E5 ?_))
   refine J7 (ih ⟨j + 1, ln2 + 1 + (nbL ((t.lk.getD i Lk0).ws.getD j (0, 0)).2 2).length, m2 + 1 + 1, m2 + 1 + 1 + 1, G2⟩ ⟨by dsimp only; omega, ?_, (by dsimp only; rw [hG2]; exact Q0), by dsimp only; omega⟩ (by dsimp only; omega)) (by (repeat first | exact LE.nil _ | refine LE.unk _ _ ?_ | refine LE.eq _ _ _ rfl ?_)) (LessH.refl _) (Nat.le_refl _)
   refine ⟨?_, ⟨_, (by rw [hG2]; exact Q0), ?_, ?_⟩, (by rw [hG2]; exact Q0), (by dsimp only; omega)⟩
   ·(try dsimp only); (try simp only [List.drop_zero, List.length_append, List.length_cons, List.length_nil, List.length_map, N2, J2, I4]); omega
   ·(try simp only [List.drop_zero]); (repeat first | assumption | exact Z0 _ | exact AI | exact V7 | apply Y9)
   ·(try dsimp only); (try simp only [List.drop_zero, List.length_append, List.length_cons, List.length_nil, List.length_map, N2, J2, I4]); omega
  ·refine A3 (A1 (wF rfl (E9 (F0 (D8 (C9 (C2 (A1 (A0 (B5 j5 (D0 j3 ?_ ?_ j3 ?_)))))))))))
   ·omega
   ·omega
   refine D7 j5 (A3 (E5 ?_))
   exact J7 (ih0 ⟨i + 1, ln2, id2, m2, g2⟩ ⟨by dsimp only; omega, ⟨by dsimp only; omega, ⟨R2, p2, p3, p4⟩, p5, by dsimp only; omega⟩⟩ (by dsimp only; omega)) (by (repeat first | exact LE.nil _ | refine LE.unk _ _ ?_ | refine LE.eq _ _ _ rfl ?_)) (LessH.refl _) (Nat.le_refl _)
 ·refine A3 (A1 (wF rfl (E9 (F0 (D8 (C9 (A1 (A2 (A0 (K0 j5 (C0 (off := 3) (s := 1) (r := false) j3 kz j3 ?_)))))))))))
  (apply C6 (v := .sl _ _ _) j2; exact Q0; exact C3; exact j5)
  refine H9 rfl rfl rfl j3 (rcv j7 (X3 (es := [[.int _ _]]) j4 kz kb rfl rfl j3 ?_))
  (apply rap (s' := 1) (es := [[.int _ _]]) rfl rfl; exact Q0; exact j2; exact Q20; exact j2; exact kz; exact U7; exact Q16; exact Q8; exact Q8; exact j3)
  refine V9 j5 (A3 (A1 (A2 (A2 (A0 (D7 j5 (A3 (A1 (B4 (F6 ?_))))))))))
  refine wlG fun g3 hg3 => ?_
  refine E8 (fun (a : BtS) => [.unk, .ptr 0 0 0, .unk, .view a.id 0 a.ln, .unk, .unk, .unk, .int .i64 a.i]) (fun (a : BtS) => a.g) (fun (a : BtS) => a.m) (fun (a : BtS) => a.i ≤ t.sn.length ∧ BtI (300 + 20 * a.i) ⟨[[.int .i64 t.tm, .int .i64 t.nx, .sl false n1 (t.lk.map (Lk.T b)), .sl false n2 (t.sn.map Sn.T)]], 4, 35⟩ a) (fun (a : BtS) => t.sn.length - a.i) ⟨0, ln + 1, m + 1, m + 1 + 1, g3⟩ ?_ ?_ ?_ ?_ ?_
  ·refine ⟨Nat.zero_le _, ?_⟩
   refine ⟨?_, ⟨_, (by rw [hg3]; exact Q0), ?_, ?_⟩, (by rw [hg3]; exact Q0), (by dsimp only; omega)⟩
   ·(try dsimp only); (try simp only [List.drop_zero, List.length_append, List.length_cons, List.length_nil, List.length_map, N2, J2, I4]); omega
   ·(try simp only [List.drop_zero]); (repeat first | assumption | exact Z0 _ | exact AI | exact V7 | apply Y9)
   ·(try dsimp only); (try simp only [List.drop_zero, List.length_append, List.length_cons, List.length_nil, List.length_map, N2, J2, I4]); omega
  ·(repeat first | exact LE.nil _ | refine LE.unk _ _ ?_ | refine LE.eq _ _ _ rfl ?_)
  ·exact LessH.refl _
  ·exact Nat.le_refl _
  intro ⟨i, ln, id, m, g⟩ hI ih
  have q0 := hI.1
  have q1 := hI.2.ln
  obtain ⟨R, q2, q3, q4⟩ := hI.2.R
  have q5 := hI.2.g0
  have q6 := hI.2.id
  dsimp only at q0 q1 q2 q4 q5 q6 ⊢
  have hsn : i < t.sn.length → (t.sn.getD i Sn0).an.OK := fun h => (ht.2.2.2.2.2 i h).1.2.2
  refine F5 (A2 (A2 (A0 (B5 j5 (C0 (off := 3) (s := 1) (r := false) j3 kz j3 ?_)))))
  (apply C6 (v := .sl _ _ _) j2; exact Q0; exact C3; exact j5)
  refine H9 rfl rfl rfl j3 ?_
  refine I9 j6 ?_ ?_ <;> intro h16_4
  ·refine A3 (A1 (wT rfl (B2 (A1 (A2 (B4 (A2 (A0 (C0 (off := 3) (s := 1) (r := false) j3 kz j3 ?_)))))))))
   (apply C6 (v := .sl _ _ _) j2; exact Q0; exact C3; exact j5)
   refine B5 j5 ?_
   (apply N6 j4; exact X5; exact Q38; exact j4)
   refine S9 (vs := [.int _ _, .int _ _, .int _ _, .int _ _, .int _ _, .int _ _]) j3 kb j4 (H0 j6 ?_)
   (apply D2 (u := .agg [.int _ _, .int _ _, .int _ _, .int _ _, .int _ _, .int _ _]) j3; exact Q0; exact C3; rfl; rfl; rfl; rfl; exact kb; rfl; exact j2)
   refine A3 (A1 (A2 ?_))
   have hs3 := hsn (by omega)
   unfold An.OK at hs3
   refine B9 [0, 0, 2, 6, 14, 31, 0, 64, 255, 511, 1023] rfl (by decide +kernel) ?_
   refine dmV j5 (C8 (off := 0) (s := 1) (r := false) j3 kz j3 ?_)
   (apply D1 (v := .int _ _) j2; exact Q0; exact C3; exact j5)
   refine dcv j7 (AN (es := [[.int _ _]]) j4 kz kb rfl rfl j3 ?_)
   (apply U6 (s' := 1) (es := [[.int _ _]]) rfl rfl; exact Q0; exact j2; exact Q20; exact j2; exact kz; exact U7; exact Q16; exact Q8; exact Q8; exact j3)
   refine C8 (off := 1) (s := 1) (r := false) j3 kz j3 ?_
   (apply D1 (v := .int _ _) j2; exact Q0; exact C3; exact j5)
   refine V1 (q139 _ 2 kb) rfl j5 ?_
   (apply U6 (s' := 1)  rfl rfl; exact Q0; exact j2; exact Q20; exact j2; exact kz; exact U7; exact Q16; exact Q8; exact Q8; exact j3)
   refine daV j5 (B3 11 [0, 3, 0, 1, 0, 3, 3, 0, 1, 0, 0] [(4, 7), (5, 7)] j2 (by decide +kernel) ?_ ?_)
   ·exact Q33
   refine A1 (A2 (B9 [0, 0, 2, 6, 14, 30, 63, 0, 128, 384, 1023, 2047, 4095] rfl (by decide +kernel) ?_))
   refine dmV j5 (C8 (off := 2) (s := 4) (r := true) j3 kz j3 (C8 (off := 0) (s := 1) (r := false) j3 kz j3 ?_))
   (apply D1 (v := .int _ _) j2; exact Q0; exact C3; exact j5)
   refine dcv j7 (AN (es := [[.int _ _]]) j4 kz kb rfl rfl j3 ?_)
   (apply U6 (s' := 1) (es := [[.int _ _]]) rfl rfl; exact Q0; exact j2; exact Q20; exact j2; exact kz; exact U7; exact Q16; exact Q8; exact Q8; exact j3)
   refine C8 (off := 2) (s := 4) (r := true) j3 kz j3 (C8 (off := 1) (s := 1) (r := false) j3 kz j3 ?_)
   (apply D1 (v := .int _ _) j2; exact Q0; exact C3; exact j5)
   refine V1 (q139 _ 3 kb) rfl j5 ?_
   (apply U6 (s' := 1)  rfl rfl; exact Q0; exact j2; exact Q20; exact j2; exact kz; exact U7; exact Q16; exact Q8; exact Q8; exact j3)
   refine daV j5 (B3 13 [0, 3, 0, 1, 0, 0, 3, 3, 0, 1, 0, 0, 0] [(5, 9), (6, 9)] j2 (by decide +kernel) ?_ ?_)
   ·exact Q33
   refine A1 (B9 [0, 0, 2, 6, 14, 30, 63, 0, 128, 384, 1023, 2047, 4095] rfl (by decide +kernel) ?_)
   refine dmV j5 (C8 (off := 2) (s := 4) (r := true) j3 kz j3 (C8 (off := 2) (s := 1) (r := false) j3 kz j3 ?_))
   (apply D1 (v := .int _ _) j2; exact Q0; exact C3; exact j5)
   refine K8 j3 ?_ ?_ j3 ?_
   ·omega
   ·omega
   refine V1 (q139 _ 2 kb) rfl j5 ?_
   (apply U6 (s' := 1)  rfl rfl; exact Q0; exact j2; exact Q20; exact j2; exact kz; exact U7; exact Q16; exact Q8; exact Q8; exact j3)
   refine C8 (off := 2) (s := 4) (r := true) j3 kz j3 (C8 (off := 3) (s := 1) (r := false) j3 kz j3 ?_)
   (apply D1 (v := .int _ _) j2; exact Q0; exact C3; exact j5)
   refine V1 (q139 _ 4 kb) rfl j5 ?_
   (apply U6 (s' := 1)  rfl rfl; exact Q0; exact j2; exact Q20; exact j2; exact kz; exact U7; exact Q16; exact Q8; exact Q8; exact j3)
   refine daV j5 (B3 13 [0, 3, 0, 1, 0, 0, 3, 0, 0, 1, 0, 0, 0] [(6, 9)] j2 (by decide +kernel) ?_ ?_)
   ·exact Q33
   refine C2 (A1 ?_)
   refine W6 fun G3 hG3 => ?_
   refine A0 (B5 j5 (D0 j3 ?_ ?_ j3 ?_))
   ·omega
   ·omega
   refine D7 j5 (A3 (E5 ?_))
   refine J7 (ih ⟨i + 1, ln + 1 + (nbL (t.sn.getD i Sn0).st 2).length + 1 + (nbL (t.sn.getD i Sn0).an.tk 3).length + (nbL ((t.sn.getD i Sn0).an.hd + 1) 2).length + (nbL (t.sn.getD i Sn0).an.ex 4).length, m + 1 + 1 + 1 + 1 + 1 + 1 + 1 + 1, m + 1 + 1 + 1 + 1 + 1 + 1 + 1 + 1 + 1, G3⟩ ⟨by dsimp only; omega, ?_⟩ (by dsimp only; omega)) (by (repeat first | exact LE.nil _ | refine LE.unk _ _ ?_ | refine LE.eq _ _ _ rfl ?_)) (LessH.refl _) (Nat.le_refl _)
   refine ⟨?_, ⟨_, (by rw [hG3]; exact Q0), ?_, ?_⟩, (by rw [hG3]; exact Q0), (by dsimp only; omega)⟩
   ·(try dsimp only); (try simp only [List.drop_zero, List.length_append, List.length_cons, List.length_nil, List.length_map, N2, J2, I4]); omega
   ·(try simp only [List.drop_zero]); (repeat first | assumption | exact Z0 _ | exact AI | exact V7 | apply Y9)
   ·(try dsimp only); (try simp only [List.drop_zero, List.length_append, List.length_cons, List.length_nil, List.length_map, N2, J2, I4]); omega
  ·refine A3 (A1 (wF rfl (E9 (F0 (D8 (C9 (A1 (A2 (A0 (K0 j5 (V9 j5 (A3 ?_))))))))))))
   refine A1 (B1 ?_)
   obtain ⟨RR, e⟩ := q3
   subst e
   exact ⟨RR, trivial, X4 (xs := [.view id 0 ln]) [id] rfl (.cons _ _ _ _ (.one _ _ (snapB (List.mem_singleton.2 rfl) q2 (by rw [← q4, List.length_map]))) .nil)⟩
open Go.V
set_option linter.unusedVariables false
set_option linter.unusedSimpArgs false
set_option maxRecDepth 20000
set_option maxHeartbeats 4000000
theorem s74 (t : Tb) (b n1 n2 : Bool) (ht : t.OK) : ∃ R : List Int, True ∧ Pure En 74 [.agg (t.T b n1 n2)] [.one (.sl true (R.map bT)), .one (.int .i64 0)] := by
 obtain ⟨R, _, hR⟩ := s114 t b n1 n2 ht
 refine Pure.of_wpX Try.func74 rfl kb ?_
 refine A2 (A0 ?_)
 (refine J6 (u := .agg [.int .i64 t.tm, .int .i64 t.nx, .sl false n1 (t.lk.map (Lk.T b)), .sl false n2 (t.sn.map Sn.T)]) j3 rfl j3 ?_)
 refine raN j5 (D7 j5 (A3 (A1 (A2 (A2 (A0 ?_))))))
 (apply F8 (vs := [.int _ _, .int _ _, _, _]) j2; exact Q0; exact C3; rfl; exact kb; rfl; exact j3)
 refine E7 (s42 t b n1 n2) rfl j5 ?_ ?_ <;> intro h1_1
 ·refine D5 (c := true) j5 (A3 (A1 (wF rfl (B2 (A1 (A2 (A0 ?_)))))))
  (apply F8 (vs := [.int _ _, .int _ _, _, _]) j2; exact Q0; exact C3; rfl; exact kb; rfl; exact j3)
  refine rcl hR rfl j5 (raL j5 (D7 j5 (A3 (A1 (B1 ?_)))))
  exact ⟨R, trivial, fin rfl rfl⟩
 ·refine D5 (c := false) j5 (A3 (A1 (wT rfl (A2 ?_))))
  exact absurd ht h1_1
theorem s31 (t : Tb) (b n1 n2 : Bool) (ht : t.OK) : Pure En 31 [.agg (t.T b n1 n2), .agg (t.T b n1 n2)] [.one (.bool true)] := by
 obtain ⟨R, _, hR⟩ := s74 t b n1 n2 ht
 refine Pure.of_wp Try.func31 rfl kb ?_
 refine A2 (A0 ?_)
 (refine J6 (u := .agg [.int .i64 t.tm, .int .i64 t.nx, .sl false n1 (t.lk.map (Lk.T b)), .sl false n2 (t.sn.map Sn.T)]) j3 rfl j3 ?_)
 (refine J6 (u := .agg [.int .i64 t.tm, .int .i64 t.nx, .sl false n1 (t.lk.map (Lk.T b)), .sl false n2 (t.sn.map Sn.T)]) j3 rfl j3 ?_)
 refine C4 j5 (A3 (A1 (A2 (A0 ?_))))
 (apply F8 (vs := [.int _ _, .int _ _, _, _]) j2; exact Q0; exact C3; rfl; exact kb; rfl; exact j3)
 refine rcl hR rfl j5 (rmT j5 (U4 j6 (U4 j6 (raL j5 (D7 j5 (A3 (A1 (A2 (A0 ?_)))))))))
 (apply F8 (vs := [.int _ _, .int _ _, _, _]) j2; exact Q0; exact C3; rfl; exact kb; rfl; exact j3)
 refine rcl hR rfl j5 (rmT j5 (U4 j6 (U4 j6 (raL j5 (D7 j5 (A3 (A1 (A2 (A0 (B5 j5 ?_))))))))))
 refine I1 j6 ?_ (fun h => absurd (rfl) h)
 intro h3_1
 refine C7 j5 (B5 j5 ?_)
 refine I1 j6 ?_ (fun h => absurd (rfl) h)
 intro h3_4
 refine B7 (e := true) j6 (C7 j5 (AL j5 ?_))
 (apply rsg j4; rfl; (intro s e; cases e); exact rowsBf true R; exact j3)
 refine AL j5 ?_
 (apply rsg j4; rfl; (intro s e; cases e); exact rowsBf true R; exact j3)
 refine rseq j6 ?_ (fun h => absurd (rfl) h)
 intro h3_11
 refine B7 (e := true) j6 (C4 j5 (A3 (A1 (B1 ?_))))
 exact fin rfl rfl
open Go.V
set_option linter.unusedVariables false
set_option linter.unusedSimpArgs false
set_option maxRecDepth 20000
set_option maxHeartbeats 4000000
theorem BT {a b c : Int} {Sl Ss : V} {an : An} (h1 : Sl.flat = true) (h2 : Ss.flat = true) : (V.tup [.agg [.int .i64 a, .int .i64 b, Sl, Ss], .agg an.V, .int .i64 c]).flat3 = true := by
 show ((Sl.flat && (Ss.flat && true)) && true) = true; rw [h1, h2]; rfl
theorem tupFlat3 {a b c : Int} {Sl Ss : V} (h1 : Sl.flat = true) (h2 : Ss.flat = true) : (V.tup [.agg [.int .i64 a, .int .i64 b, Sl, Ss], .int .i64 c]).flat3 = true := by
 show ((Sl.flat && (Ss.flat && true)) && true) = true; rw [h1, h2]; rfl
theorem eqAn (a : An) : eqV En.P 10000 60 (.agg a.V) (.agg a.V) = some true := by
 have h : eqV En.P 10000 60 (.agg a.V) (.agg a.V) = some ((a.kd == a.kd) && ((a.tk == a.tk) && ((a.hd == a.hd) && ((a.ex == a.ex) && true)))) := by kernel_rfl
 rw [h]; simp
theorem once_walk (n1 n2 : Bool) (B C : List Int) (hB : B.length ≤ 1048576) (hC : C.length ≤ 1048576) (t X Y : Tb) (r : Rq) (an : An) (c9 : Int) (ht : 0 ≤ t.tm ∧ t.tm ≤ 1000) (hc : 0 ≤ c9 ∧ c9 ≤ 8)
  (h28 : Pure En 28 [.one (.sl n1 (B.map bT))] [.agg (t.T true true true)]) (h29 : Pure En 29 [.one (.sl n2 (C.map bT))] [.agg r.T]) (h30 : Pure En 30 [.one (.sl n2 (C.map bT)), .one (.int .i64 0), .one (.int .i64 9)] [.one (.int .i64 c9)])
  (hO1 : ∀ n, ∃ Sl Ss W wr m, Fresh X Sl Ss W wr n m ∧ True ∧ V.Open En 27 ([A.agg (t.T true true true), A.one (.int .i64 (t.tm + c9)), A.agg (Rq.mk r.cl 60000 r.kd r.le r.nm).T].map (A.toV false)) (fun _ => none) n (.tup [.agg [.int .i64 X.tm, .int .i64 X.nx, Sl, Ss], .agg an.V, .int .i64 0]) wr m)
  (hO2 : ∀ N b1 b2, NilOK X N b1 b2 → ∀ n, ∃ Sl Ss W wr m, Fresh X Sl Ss W wr n m ∧ True ∧ V.Open En 27 ([A.agg (X.N N b1 b2), A.one (.int .i64 (t.tm + c9)), A.agg (Rq.mk r.cl 60000 r.kd r.le r.nm).T].map (A.toV false)) (fun _ => none) n (.tup [.agg [.int .i64 X.tm, .int .i64 X.nx, Sl, Ss], .agg an.V, .int .i64 0]) wr m)
  (hO3 : ∀ N b1 b2, NilOK X N b1 b2 → ∀ n, ∃ Sl Ss W wr m, Fresh Y Sl Ss W wr n m ∧ True ∧ V.Open En 27 ([A.agg (X.N N b1 b2), A.one (.int .i64 (t.tm + c9 + 500)), A.agg (Rq.mk r.cl 60000 r.kd r.le r.nm).T].map (A.toV false)) (fun _ => none) n (.tup [.agg [.int .i64 Y.tm, .int .i64 Y.nx, Sl, Ss], .agg an.V, .int .i64 0]) wr m)
  (hO4 : ∀ N b1 b2, NilOK X N b1 b2 → ∀ n, ∃ Sl Ss W wr m, Fresh Y Sl Ss W wr n m ∧ True ∧ V.Open En 19 ([A.agg (X.N N b1 b2), A.one (.int .i64 (t.tm + c9 + 500))].map (A.toV false)) (fun _ => none) n (.tup [.agg [.int .i64 Y.tm, .int .i64 Y.nx, Sl, Ss], .int .i64 0]) wr m)
  (h31 : Pure En 31 [.agg (X.T false false false), .agg (X.T false false false)] [.one (.bool true)]) (h32 : Pure En 32 [.agg (Y.T false false false), .agg (Y.T false false false)] [.one (.bool true), .one (.int .i64 0)]) :
  Pure En 6 [.one (.sl n1 (B.map bT)), .one (.sl n2 (C.map bT))] [.one (.bool true)] := by
 have hb : (B.map bT).length = B.length := List.length_map ..
 have hcl : (C.map bT).length = C.length := List.length_map ..
 refine Pure.of_wp Try.func6 rfl kb ?_
 refine A2 (A0 (C4 j5 (A3 (A1 (A2 (A2 (A0 (AL j5 (H9 rfl rfl rfl j3 ?_)))))))))
 refine X1 j6 (fun h => absurd h (by omega)) ?_
 intro h1_2
 refine C7 j5 (AL j5 (H9 rfl rfl rfl j3 ?_))
 refine X1 j6 (fun h => absurd h (by omega)) ?_
 intro h1_6
 refine B7 (e := false) j6 (A3 (A1 (wF rfl (B2 (A1 (A2 (A0 (AL j5 (rcl h28 rfl j5 (H0 j6 ?_))))))))))
 (apply D2 (u := .agg [.int _ _, .int _ _, _, _]) j3; exact Q7; exact C3; rfl; rfl; rfl; exact Q15; exact kb; rfl; exact j2)
 refine A3 (A1 (A2 (A0 (AL j5 (rcl h29 rfl j5 (H0 j6 ?_))))))
 (apply D2 (u := .agg [.int _ _, .int _ _, .int _ _, .int _ _, .str _]) j3; exact Q7; exact C3; rfl; rfl; rfl; exact Q15; exact kb; rfl; exact j2)
 refine A3 (A1 (A2 (A0 (C0 (off := 1) (s := 1) (r := false) j3 kz j3 ?_))))
 (apply D2 (u := .int _ _) j3; exact Q7; exact C3; rfl; rfl; rfl; exact Q15; exact kb; rfl; exact j2)
 refine A3 (A1 (A2 (B9 [0, 1, 0, 4, 15, 31] rfl (by decide +kernel) ?_)))
 refine C8 (off := 0) (s := 1) (r := false) j3 kz j3 ?_
 (apply D1 (v := .int _ _) j2; exact Q7; exact C3; exact j5)
 refine dmL j5 (V1 h30 rfl j5 (K8 j3 ?_ ?_ j3 ?_))
 ·(first | omega | assumption)
 ·(first | omega | assumption)
 refine daI j5 (B3 6 [0, 0, 0, 0, 1, 0] [] j2 (by decide +kernel) trivial ?_)
 refine A1 (A2 ?_)
 obtain ⟨Sl1, Ss1, W1, wr1, e1, F1, _, O1⟩ := hO1 (0 + 1 + 1)
 have le1 := O1.le
 refine W6 fun G1 hG1 => ?_
 have b0G1 : G1 (0) = some ⟨[[.int .i64 t.tm, .int .i64 t.nx, .sl true true (t.lk.map (Lk.T true)), .sl true true (t.sn.map Sn.T)]], 4, 35⟩ := by rw [hG1]; (simp (disch := (first | omega | assumption | (refine mt (F1.id _) ?_; omega) | (refine mt (F2.id _) ?_; omega) | (refine mt (F3.id _) ?_; omega) | (refine mt (F4.id _) ?_; omega) | fail)) only [↓appC, ↓updN, ↓updS, ↓app0, ↓L8]); rfl
 have b1G1 : G1 (0 + 1) = some ⟨[[.int .i64 r.cl, .int .i64 60000, .int .i64 r.kd, .int .i64 r.le, .str r.nm]], 5, 64⟩ := by rw [hG1]; (simp (disch := (first | omega | assumption | (refine mt (F1.id _) ?_; omega) | (refine mt (F2.id _) ?_; omega) | (refine mt (F3.id _) ?_; omega) | (refine mt (F4.id _) ?_; omega) | fail)) only [↓appC, ↓updN, ↓updS, ↓app0, ↓L8]); rfl
 refine A0 ?_
 (apply F8 (vs := [.int _ _, .int _ _, _, _]) j2; exact Q7; exact C3; rfl; exact kb; rfl; exact j3)
 refine B5 j5 ?_
 (apply F8 (vs := [.int _ _, .int _ _, .int _ _, .int _ _, .str _]) j2; exact Q7; exact C3; rfl; exact kb; rfl; exact j3)
 (apply rfs [] O1 rfl j2; exact (SnapL.cons _ _ _ _ (SnapC.agg (.cons _ _ _ _ (.int _ _) (.cons _ _ _ _ (.int _ _) (.cons _ _ _ _ (.sl _ _ _ (fun h => by cases h)) (.cons _ _ _ _ (.sl _ _ _ (fun h => by cases h)) .nil))))) (SnapL.cons _ _ _ _ (.one _ _ (.int _ _)) (SnapL.cons _ _ _ _ (SnapC.agg (.cons _ _ _ _ (.int _ _) (.cons _ _ _ _ (.int _ _) (.cons _ _ _ _ (.int _ _) (.cons _ _ _ _ (.int _ _) (.cons _ _ _ _ (.str _) .nil)))))) SnapL.nil))); exact BT (L9 F1.tv.kl) (L9 F1.tv.ks); exact F1.fl; exact F1.ne; exact j3)
 refine rmT j5 (U4 j6 (U4 j6 (U4 j6 (H0 j6 (H0 j6 ?_)))))
 (apply D2 (u := .agg [.int _ _, .int _ _, _, _]) j3; exact Q7; exact C3; rfl; rfl; rfl; exact Q15; exact kb; rfl; exact j2)
 (apply D2 (u := .agg [.int _ _, .int _ _, .int _ _, .int _ _]) j3; exact Q7; exact C3; rfl; rfl; rfl; exact Q15; exact kb; rfl; exact j2)
 refine D7 j5 (A3 (A1 (A2 ?_)))
 refine W6 fun G2 hG2 => ?_
 have b1G2 : G2 (0 + 1) = some ⟨[[.int .i64 r.cl, .int .i64 60000, .int .i64 r.kd, .int .i64 r.le, .str r.nm]], 5, 64⟩ := by rw [hG2]; (simp (disch := (first | omega | assumption | (refine mt (F1.id _) ?_; omega) | (refine mt (F2.id _) ?_; omega) | (refine mt (F3.id _) ?_; omega) | (refine mt (F4.id _) ?_; omega) | fail)) only [↓appC, ↓updN, ↓updS, ↓app0, ↓L8]); exact b1G1
 have kxG2 : G2 (e1) = some ⟨[[.int .i64 X.tm, .int .i64 X.nx, Sl1, Ss1]], 4, 35⟩ := by rw [hG2]; (simp (disch := (first | omega | assumption | (refine mt (F1.id _) ?_; omega) | (refine mt (F2.id _) ?_; omega) | (refine mt (F3.id _) ?_; omega) | (refine mt (F4.id _) ?_; omega) | fail)) only [↓appC, ↓updN, ↓updS, ↓app0, ↓L8]); rfl
 have kaG2 : G2 (e1 + 1) = some ⟨[[.int .i64 an.kd, .int .i64 an.tk, .int .i64 an.hd, .int .i64 an.ex]], 4, 60⟩ := by rw [hG2]; (simp (disch := (first | omega | assumption | (refine mt (F1.id _) ?_; omega) | (refine mt (F2.id _) ?_; omega) | (refine mt (F3.id _) ?_; omega) | (refine mt (F4.id _) ?_; omega) | fail)) only [↓appC, ↓updN, ↓updS, ↓app0, ↓L8]); rfl
 have T1G2 : TabV X Sl1 Ss1 W1 G2 (0 + 1 + 1) e1 := F1.tv.at (by omega) (fun a ha => by have q := V4 F1.tv ha; rw [hG2]; (simp (disch := (first | omega | assumption | (refine mt (F1.id _) ?_; omega) | (refine mt (F2.id _) ?_; omega) | (refine mt (F3.id _) ?_; omega) | (refine mt (F4.id _) ?_; omega) | fail)) only [↓appC, ↓updN, ↓updS, ↓app0, ↓L8]); exact P2 _ _ _ _ (F1.own a ha))
 obtain ⟨Sl2, Ss2, W2, wr2, e2, F2, _, O2⟩ := hO2 _ _ _ T1G2.nilOK (e1 + 1 + 1)
 have le2 := O2.le
 refine A0 ?_
 (apply F8 (vs := [.int _ _, .int _ _, _, _]) j2; exact Q7; exact C3; rfl; exact kb; rfl; exact j3)
 refine B5 j5 ?_
 (apply F8 (vs := [.int _ _, .int _ _, .int _ _, .int _ _, .str _]) j2; exact Q7; exact C3; rfl; exact kb; rfl; exact j3)
 (apply rfs (e1 :: tabIds Sl1 Ss1 W1 X.lk.length) O2 rfl j2; exact (SnapL.cons _ _ _ _ (CJ T1G2 (fun a ha => List.mem_cons_of_mem _ ha)) (SnapL.cons _ _ _ _ (.one _ _ (.int _ _)) (SnapL.cons _ _ _ _ (SnapC.agg (.cons _ _ _ _ (.int _ _) (.cons _ _ _ _ (.int _ _) (.cons _ _ _ _ (.int _ _) (.cons _ _ _ _ (.int _ _) (.cons _ _ _ _ (.str _) .nil)))))) SnapL.nil))); exact BT (L9 F2.tv.kl) (L9 F2.tv.ks); exact F2.fl; exact F2.ne; exact j3)
 refine rmT j5 (U4 j6 (U4 j6 (U4 j6 (H0 j6 (H0 j6 ?_)))))
 (apply D2 (u := .agg [.int _ _, .int _ _, _, _]) j3; exact Q7; exact C3; rfl; rfl; rfl; exact Q15; exact kb; rfl; exact j2)
 (apply D2 (u := .agg [.int _ _, .int _ _, .int _ _, .int _ _]) j3; exact Q7; exact C3; rfl; rfl; rfl; exact Q15; exact kb; rfl; exact j2)
 refine D7 j5 (A3 (A1 (A2 (A2 ?_))))
 refine W6 fun G3 hG3 => ?_
 have b1G3 : G3 (0 + 1) = some ⟨[[.int .i64 r.cl, .int .i64 60000, .int .i64 r.kd, .int .i64 r.le, .str r.nm]], 5, 64⟩ := by rw [hG3]; (simp (disch := (first | omega | assumption | (refine mt (F1.id _) ?_; omega) | (refine mt (F2.id _) ?_; omega) | (refine mt (F3.id _) ?_; omega) | (refine mt (F4.id _) ?_; omega) | fail)) only [↓appC, ↓updN, ↓updS, ↓app0, ↓L8]); exact b1G2
 have kxG3 : G3 (e1) = some ⟨[[.int .i64 X.tm, .int .i64 X.nx, Sl1, Ss1]], 4, 35⟩ := by rw [hG3]; (simp (disch := (first | omega | assumption | (refine mt (F1.id _) ?_; omega) | (refine mt (F2.id _) ?_; omega) | (refine mt (F3.id _) ?_; omega) | (refine mt (F4.id _) ?_; omega) | fail)) only [↓appC, ↓updN, ↓updS, ↓app0, ↓L8]); exact kxG2
 have kaG3 : G3 (e1 + 1) = some ⟨[[.int .i64 an.kd, .int .i64 an.tk, .int .i64 an.hd, .int .i64 an.ex]], 4, 60⟩ := by rw [hG3]; (simp (disch := (first | omega | assumption | (refine mt (F1.id _) ?_; omega) | (refine mt (F2.id _) ?_; omega) | (refine mt (F3.id _) ?_; omega) | (refine mt (F4.id _) ?_; omega) | fail)) only [↓appC, ↓updN, ↓updS, ↓app0, ↓L8]); exact kaG2
 have kyG3 : G3 (e2) = some ⟨[[.int .i64 X.tm, .int .i64 X.nx, Sl2, Ss2]], 4, 35⟩ := by rw [hG3]; (simp (disch := (first | omega | assumption | (refine mt (F1.id _) ?_; omega) | (refine mt (F2.id _) ?_; omega) | (refine mt (F3.id _) ?_; omega) | (refine mt (F4.id _) ?_; omega) | fail)) only [↓appC, ↓updN, ↓updS, ↓app0, ↓L8]); rfl
 have kbG3 : G3 (e2 + 1) = some ⟨[[.int .i64 an.kd, .int .i64 an.tk, .int .i64 an.hd, .int .i64 an.ex]], 4, 60⟩ := by rw [hG3]; (simp (disch := (first | omega | assumption | (refine mt (F1.id _) ?_; omega) | (refine mt (F2.id _) ?_; omega) | (refine mt (F3.id _) ?_; omega) | (refine mt (F4.id _) ?_; omega) | fail)) only [↓appC, ↓updN, ↓updS, ↓app0, ↓L8]); rfl
 have T1G3 : TabV X Sl1 Ss1 W1 G3 (0 + 1 + 1) e1 := T1G2.keep (Nat.le_refl _) (fun a h1 h2 => by rw [hG3]; (simp (disch := (first | omega | assumption | (refine mt (F1.id _) ?_; omega) | (refine mt (F2.id _) ?_; omega) | (refine mt (F3.id _) ?_; omega) | (refine mt (F4.id _) ?_; omega) | fail)) only [↓appC, ↓updN, ↓updS, ↓app0, ↓L8]))
 have T2G3 : TabV X Sl2 Ss2 W2 G3 (e1 + 1 + 1) e2 := F2.tv.at (by omega) (fun a ha => by have q := V4 F2.tv ha; rw [hG3]; (simp (disch := (first | omega | assumption | (refine mt (F1.id _) ?_; omega) | (refine mt (F2.id _) ?_; omega) | (refine mt (F3.id _) ?_; omega) | (refine mt (F4.id _) ?_; omega) | fail)) only [↓appC, ↓updN, ↓updS, ↓app0, ↓L8]); exact P2 _ _ _ _ (F2.own a ha))
 refine A0 (B5 j5 ?_)
 refine rne j6 (fun h => absurd h ((fun hh => hh (by first | rfl | (simp; done) | (simp; omega) | omega)))) ?_
 intro h9_1
 refine C7 j5 (B5 j5 ?_)
 refine rne j6 (fun h => absurd h ((fun hh => hh (by first | rfl | (simp; done) | (simp; omega) | omega)))) ?_
 intro h9_4
 refine B7 (e := false) j6 (C7 j5 ?_)
 (apply F8 (vs := [.int _ _, .int _ _, .int _ _, .int _ _]) j2; exact Q7; exact C3; rfl; exact kb; rfl; exact j3)
 (apply F8 (vs := [.int _ _, .int _ _, .int _ _, .int _ _]) j2; exact Q7; exact C3; rfl; exact kb; rfl; exact j3)
 refine rSneq j3 (by kernel_rfl) (eqAn an) j3 (fun h => absurd h (by decide)) ?_
 intro h9_9
 refine B7 (e := false) j6 (C7 j5 ?_)
 (apply F8 (vs := [.int _ _, .int _ _, _, _]) j2; exact Q7; exact C3; rfl; exact kb; rfl; exact j3)
 (apply F8 (vs := [.int _ _, .int _ _, _, _]) j2; exact Q7; exact C3; rfl; exact kb; rfl; exact j3)
 apply J0 (0 :: (tabIds Sl1 Ss1 W1 X.lk.length ++ tabIds Sl2 Ss2 W2 X.lk.length)) h31 rfl j2
 ·exact (SnapL.cons _ _ _ _ (AD T1G3 (fun a ha => List.mem_cons_of_mem _ (List.mem_append_left _ ha))) (SnapL.cons _ _ _ _ (AD T2G3 (fun a ha => List.mem_cons_of_mem _ (List.mem_append_right _ ha))) SnapL.nil))
 ·rfl
 ·rfl
 ·rfl
 refine D5 (c := true) j5 (B7 (e := false) j6 (A3 (A1 (wF rfl (B2 (A1 (A2 ?_)))))))
 obtain ⟨Sl3, Ss3, W3, wr3, e3, F3, _, O3⟩ := hO3 _ _ _ T1G3.nilOK (e2 + 1 + 1)
 have le3 := O3.le
 refine A0 ?_
 (apply F8 (vs := [.int _ _, .int _ _, _, _]) j2; exact Q7; exact C3; rfl; exact kb; rfl; exact j3)
 refine B5 j5 (D0 j3 ?_ ?_ j3 ?_)
 ·(first | omega | assumption)
 ·(first | omega | assumption)
 (apply F8 (vs := [.int _ _, .int _ _, .int _ _, .int _ _, .str _]) j2; exact Q7; exact C3; rfl; exact kb; rfl; exact j3)
 (apply rfs (e1 :: tabIds Sl1 Ss1 W1 X.lk.length) O3 rfl j2; exact (SnapL.cons _ _ _ _ (CJ T1G3 (fun a ha => List.mem_cons_of_mem _ ha)) (SnapL.cons _ _ _ _ (.one _ _ (.int _ _)) (SnapL.cons _ _ _ _ (SnapC.agg (.cons _ _ _ _ (.int _ _) (.cons _ _ _ _ (.int _ _) (.cons _ _ _ _ (.int _ _) (.cons _ _ _ _ (.int _ _) (.cons _ _ _ _ (.str _) .nil)))))) SnapL.nil))); exact BT (L9 F3.tv.kl) (L9 F3.tv.ks); exact F3.fl; exact F3.ne; exact j3)
 refine rmT j5 (U4 j6 (U4 j6 (U4 j6 (H0 j6 (H0 j6 ?_)))))
 (apply D2 (u := .agg [.int _ _, .int _ _, _, _]) j3; exact Q7; exact C3; rfl; rfl; rfl; exact Q15; exact kb; rfl; exact j2)
 (apply D2 (u := .agg [.int _ _, .int _ _, .int _ _, .int _ _]) j3; exact Q7; exact C3; rfl; rfl; rfl; exact Q15; exact kb; rfl; exact j2)
 refine D7 j5 (A3 (A1 (A2 ?_)))
 refine W6 fun G5 hG5 => ?_
 have kxG5 : G5 (e1) = some ⟨[[.int .i64 X.tm, .int .i64 X.nx, Sl1, Ss1]], 4, 35⟩ := by rw [hG5]; (simp (disch := (first | omega | assumption | (refine mt (F1.id _) ?_; omega) | (refine mt (F2.id _) ?_; omega) | (refine mt (F3.id _) ?_; omega) | (refine mt (F4.id _) ?_; omega) | fail)) only [↓appC, ↓updN, ↓updS, ↓app0, ↓L8]); exact kxG3
 have kaG5 : G5 (e1 + 1) = some ⟨[[.int .i64 an.kd, .int .i64 an.tk, .int .i64 an.hd, .int .i64 an.ex]], 4, 60⟩ := by rw [hG5]; (simp (disch := (first | omega | assumption | (refine mt (F1.id _) ?_; omega) | (refine mt (F2.id _) ?_; omega) | (refine mt (F3.id _) ?_; omega) | (refine mt (F4.id _) ?_; omega) | fail)) only [↓appC, ↓updN, ↓updS, ↓app0, ↓L8]); exact kaG3
 have klG5 : G5 (e3) = some ⟨[[.int .i64 Y.tm, .int .i64 Y.nx, Sl3, Ss3]], 4, 35⟩ := by rw [hG5]; (simp (disch := (first | omega | assumption | (refine mt (F1.id _) ?_; omega) | (refine mt (F2.id _) ?_; omega) | (refine mt (F3.id _) ?_; omega) | (refine mt (F4.id _) ?_; omega) | fail)) only [↓appC, ↓updN, ↓updS, ↓app0, ↓L8]); rfl
 have kcG5 : G5 (e3 + 1) = some ⟨[[.int .i64 an.kd, .int .i64 an.tk, .int .i64 an.hd, .int .i64 an.ex]], 4, 60⟩ := by rw [hG5]; (simp (disch := (first | omega | assumption | (refine mt (F1.id _) ?_; omega) | (refine mt (F2.id _) ?_; omega) | (refine mt (F3.id _) ?_; omega) | (refine mt (F4.id _) ?_; omega) | fail)) only [↓appC, ↓updN, ↓updS, ↓app0, ↓L8]); rfl
 have T1G5 : TabV X Sl1 Ss1 W1 G5 (0 + 1 + 1) e1 := T1G3.keep (Nat.le_refl _) (fun a h1 h2 => by rw [hG5]; (simp (disch := (first | omega | assumption | (refine mt (F1.id _) ?_; omega) | (refine mt (F2.id _) ?_; omega) | (refine mt (F3.id _) ?_; omega) | (refine mt (F4.id _) ?_; omega) | fail)) only [↓appC, ↓updN, ↓updS, ↓app0, ↓L8]))
 have T3G5 : TabV Y Sl3 Ss3 W3 G5 (e2 + 1 + 1) e3 := F3.tv.at (by omega) (fun a ha => by have q := V4 F3.tv ha; rw [hG5]; (simp (disch := (first | omega | assumption | (refine mt (F1.id _) ?_; omega) | (refine mt (F2.id _) ?_; omega) | (refine mt (F3.id _) ?_; omega) | (refine mt (F4.id _) ?_; omega) | fail)) only [↓appC, ↓updN, ↓updS, ↓app0, ↓L8]); exact P2 _ _ _ _ (F3.own a ha))
 obtain ⟨Sl4, Ss4, W4, wr4, e4, F4, _, O4⟩ := hO4 _ _ _ T1G5.nilOK (e3 + 1 + 1)
 have le4 := O4.le
 refine A0 ?_
 (apply F8 (vs := [.int _ _, .int _ _, _, _]) j2; exact Q7; exact C3; rfl; exact kb; rfl; exact j3)
 refine B5 j5 (D0 j3 ?_ ?_ j3 ?_)
 ·(first | omega | assumption)
 ·(first | omega | assumption)
 (apply rfs (e1 :: tabIds Sl1 Ss1 W1 X.lk.length) O4 rfl j2; exact (SnapL.cons _ _ _ _ (CJ T1G5 (fun a ha => List.mem_cons_of_mem _ ha)) (SnapL.cons _ _ _ _ (.one _ _ (.int _ _)) SnapL.nil)); exact tupFlat3 (L9 F4.tv.kl) (L9 F4.tv.ks); exact F4.fl; exact F4.ne; exact j3)
 refine rmT j5 (U4 j6 (U4 j6 (H0 j6 ?_)))
 (apply D2 (u := .agg [.int _ _, .int _ _, _, _]) j3; exact Q7; exact C3; rfl; rfl; rfl; exact Q15; exact kb; rfl; exact j2)
 refine D7 j5 (A3 (A1 (A2 ?_)))
 refine W6 fun G6 hG6 => ?_
 have kaG6 : G6 (e1 + 1) = some ⟨[[.int .i64 an.kd, .int .i64 an.tk, .int .i64 an.hd, .int .i64 an.ex]], 4, 60⟩ := by rw [hG6]; (simp (disch := (first | omega | assumption | (refine mt (F1.id _) ?_; omega) | (refine mt (F2.id _) ?_; omega) | (refine mt (F3.id _) ?_; omega) | (refine mt (F4.id _) ?_; omega) | fail)) only [↓appC, ↓updN, ↓updS, ↓app0, ↓L8]); exact kaG5
 have klG6 : G6 (e3) = some ⟨[[.int .i64 Y.tm, .int .i64 Y.nx, Sl3, Ss3]], 4, 35⟩ := by rw [hG6]; (simp (disch := (first | omega | assumption | (refine mt (F1.id _) ?_; omega) | (refine mt (F2.id _) ?_; omega) | (refine mt (F3.id _) ?_; omega) | (refine mt (F4.id _) ?_; omega) | fail)) only [↓appC, ↓updN, ↓updS, ↓app0, ↓L8]); exact klG5
 have kcG6 : G6 (e3 + 1) = some ⟨[[.int .i64 an.kd, .int .i64 an.tk, .int .i64 an.hd, .int .i64 an.ex]], 4, 60⟩ := by rw [hG6]; (simp (disch := (first | omega | assumption | (refine mt (F1.id _) ?_; omega) | (refine mt (F2.id _) ?_; omega) | (refine mt (F3.id _) ?_; omega) | (refine mt (F4.id _) ?_; omega) | fail)) only [↓appC, ↓updN, ↓updS, ↓app0, ↓L8]); exact kcG5
 have koG6 : G6 (e4) = some ⟨[[.int .i64 Y.tm, .int .i64 Y.nx, Sl4, Ss4]], 4, 35⟩ := by rw [hG6]; (simp (disch := (first | omega | assumption | (refine mt (F1.id _) ?_; omega) | (refine mt (F2.id _) ?_; omega) | (refine mt (F3.id _) ?_; omega) | (refine mt (F4.id _) ?_; omega) | fail)) only [↓appC, ↓updN, ↓updS, ↓app0, ↓L8]); rfl
 have T3G6 : TabV Y Sl3 Ss3 W3 G6 (e2 + 1 + 1) e3 := T3G5.keep (Nat.le_refl _) (fun a h1 h2 => by rw [hG6]; (simp (disch := (first | omega | assumption | (refine mt (F1.id _) ?_; omega) | (refine mt (F2.id _) ?_; omega) | (refine mt (F3.id _) ?_; omega) | (refine mt (F4.id _) ?_; omega) | fail)) only [↓appC, ↓updN, ↓updS, ↓app0, ↓L8]))
 have T4G6 : TabV Y Sl4 Ss4 W4 G6 (e3 + 1 + 1) e4 := F4.tv.at (by omega) (fun a ha => by have q := V4 F4.tv ha; rw [hG6]; (simp (disch := (first | omega | assumption | (refine mt (F1.id _) ?_; omega) | (refine mt (F2.id _) ?_; omega) | (refine mt (F3.id _) ?_; omega) | (refine mt (F4.id _) ?_; omega) | fail)) only [↓appC, ↓updN, ↓updS, ↓app0, ↓L8]); exact P2 _ _ _ _ (F4.own a ha))
 refine A0 ?_
 (apply F8 (vs := [.int _ _, .int _ _, _, _]) j2; exact Q7; exact C3; rfl; exact kb; rfl; exact j3)
 (apply F8 (vs := [.int _ _, .int _ _, _, _]) j2; exact Q7; exact C3; rfl; exact kb; rfl; exact j3)
 apply J0 (0 :: (tabIds Sl3 Ss3 W3 Y.lk.length ++ tabIds Sl4 Ss4 W4 Y.lk.length)) h32 rfl j2
 ·exact (SnapL.cons _ _ _ _ (AD T3G6 (fun a ha => List.mem_cons_of_mem _ (List.mem_append_left _ ha))) (SnapL.cons _ _ _ _ (AD T4G6 (fun a ha => List.mem_cons_of_mem _ (List.mem_append_right _ ha))) SnapL.nil))
 ·rfl
 ·rfl
 ·rfl
 refine rmT j5 (U4 j6 (U4 j6 (C4 j5 (D7 j5 (A3 (A1 (A2 (A0 (B5 j5 ?_)))))))))
 refine I1 j6 ?_ (fun h => absurd (rfl) h)
 intro h14_1
 refine C7 j5 ?_
 (apply F8 (vs := [.int _ _, .int _ _, .int _ _, .int _ _]) j2; exact Q7; exact C3; rfl; exact kb; rfl; exact j3)
 (apply F8 (vs := [.int _ _, .int _ _, .int _ _, .int _ _]) j2; exact Q7; exact C3; rfl; exact kb; rfl; exact j3)
 refine rSeql j3 (by kernel_rfl) (eqAn an) j3 ?_ (fun h => Bool.noConfusion h)
 intro h14_5
 refine B7 (e := true) j6 (C7 j5 (B5 j5 ?_))
 refine I1 j6 ?_ (fun h => absurd (rfl) h)
 intro h14_9
 refine B7 (e := true) j6 (C7 j5 (B5 j5 ?_))
 refine I1 j6 ?_ (fun h => absurd (rfl) h)
 intro h14_13
 refine B7 (e := true) j6 (C7 j5 (C7 j5 (B7 (e := true) j6 (C4 j5 (A3 (A1 (B1 ?_)))))))
 exact fin rfl rfl
end Go.Proofs.Ytknnniaoboaghaa
