import Derived.Test.YtknnniaoboaghaaF15
namespace Go.Proofs.Ytknnniaoboaghaa
open Go.V
set_option linter.unusedVariables false
set_option linter.unusedSimpArgs false
set_option maxRecDepth 20000
set_option maxHeartbeats 4000000
theorem fence_walk (n1 : Bool) (B : List Int) (hB : B.length ≤ 1048576) (L : List Rq) (Tm : List Int) (hR : Reqs L Tm)
  (h21 : Pure En 21 [.one (.sl n1 (B.map bT))] [.one (.sl true (L.map Rq.T))]) (h22 : Pure En 22 [.one (.sl n1 (B.map bT))] [.one (.sl true (Tm.map iT))]) :
  Pure En 5 [.one (.sl n1 (B.map bT))] [.one (.bool true)] := by
 have hb : (B.map bT).length = B.length := List.length_map ..
 have hl1 : (L.map Rq.T).length = L.length := List.length_map ..
 have hl2 : (Tm.map iT).length = Tm.length := List.length_map ..
 have hlg : ((gA L Tm L.length).map Gr.T).length = (gA L Tm L.length).length := List.length_map ..
 have hg7 := gA_len hR L.length (Nat.le_refl _)
 have hl3 := hR.2.2.1
 have hl4 := hR.2.2.2
 have h26 : Pure En 26 [.one (.sl true []), .one (.sl true [])] [.agg (T1.T true true true), .one (.sl true []), .one (.int .i64 0)] := s26 [] [] true true ⟨fun r h => absurd h List.not_mem_nil, fun r h => absurd h List.not_mem_nil, Nat.zero_le _, rfl⟩
 refine Pure.of_wp Try.func5 rfl kb ?_
 refine A2 (A0 (C6 j5 (A3 (A1 (A2 (A2 (A0 (I8 j5 (H0 rfl rfl rfl j3 ?_)))))))))
 refine V4 j6 (fun h => absurd h (by omega)) ?_
 intro h1_2
 refine A3 (A1 (wF rfl (B0 (A1 (A2 (A0 (I8 j5 (AB h21 rfl j5 (raL j5 (A3 (A1 (A2 ?_))))))))))))
 refine A0 (I8 j5 (AB h22 rfl j5 (raL j5 (A3 (A1 (A2 (A2 (A0 (I8 j5 (H0 rfl rfl rfl j3 ?_))))))))))
 refine V4 j6 (fun h => absurd h (by omega)) ?_
 intro h5_2
 refine A3 (A1 (wF rfl (B0 (A1 (A2 (A0 (I8 j5 (I8 j5 (AB (s23 L Tm true true hR) rfl j5 (rmT j5 (T6 j6 (T6 j6 ?_))))))))))))
 refine raL j5 (D0 j5 (A3 (A1 (A2 (A0 (I8 j5 (I8 j5 (AB (s24 L Tm true true hR) rfl j5 (rmT j5 (T6 j6 (T6 j6 (raL j5 ?_))))))))))))
 refine D0 j5 (A3 (A1 (A2 (A2 (A0 (B6 j5 ?_))))))
 refine rne j6 (fun h => absurd h ((fun hh => hh rfl))) ?_
 intro h9_1
 refine C4 j5 (I8 j5 (I8 j5 ?_))
 refine AB (s25 (gA L Tm L.length) false true (by have := gA_len hR L.length (Nat.le_refl _); omega)) rfl j5 ?_
 refine D5 (c := true) j5 (C0 (e := false) j6 (A3 (A1 (wF rfl (B0 (A1 (A2 (A2 (A0 (D0 j5 (A3 (A1 ?_))))))))))))
 refine B3 (F0 ?_)
 refine AJ (fun (i : Nat) => [.unk, .unk, .unk, .sl true true (L.map Rq.T), .sl true true (Tm.map iT), .sl true false ((gA L Tm L.length).map Gr.T), .unk, .unk, .unk, .int .i64 i]) (fun (i : Nat) => 1 ≤ i ∧ (i ≤ (gA L Tm L.length).length ∨ i = 1)) (fun (i : Nat) => (gA L Tm L.length).length - i) 1 ?_ ?_ ?_
 ·exact ⟨Nat.le_refl _, .inr rfl⟩
 ·(repeat first | exact LE.nil _ | refine LE.unk _ _ ?_ | refine LE.eq _ _ _ rfl ?_)
 intro i hI ih
 refine E8 (A2 (A2 (A0 (B6 j5 (I8 j5 (H0 rfl rfl rfl j3 ?_))))))
 refine I6 j6 ?_ ?_ <;> intro h12_3
 ·refine A3 (A1 (wT rfl (B0 (A1 (A2 (B3 (A2 (C2 [0, 0, 3, 7, 15, 0, 0, 64, 224, 480, 992, 2047] rfl (by decide +kernel) ?_))))))))
  refine BL j5 (I0 j5 ?_)
  (apply K6 j4; exact H1; exact Q7; exact j4)
  refine U6 (off := 2) (s := 1) (r := false) j3 kz j4 (N1 (v := .int _ _) j8 (BL j5 (I0 j5 (dsubF j3 ?_ ?_ j3 ?_))))
  ·exact H1
  ·exact H1
  (apply K6 j4; exact H1; exact Q7; exact j4)
  refine U6 (off := 2) (s := 1) (r := false) j3 kz j4 (N1 (v := .int _ _) j8 ?_)
  refine dle j6 (fun h => absurd h (by have q := gA_lt hR (i := i) (by omega) (by omega); omega)) ?_
  intro h14_11
  refine B1 12 [0, 0, 0, 0, 0, 0, 0, 0, 0, 0, 0, 0] [] j2 (by decide +kernel) trivial ?_
  refine A1 (wF rfl (B0 (B7 (A1 (A0 (B6 j5 (C3 j3 ?_ ?_ j3 ?_)))))))
  ·exact H1
  ·exact H1
  refine D0 j5 (A3 (D1 ?_))
  exact wlN (ih (i + 1) ⟨by omega, .inl (by omega)⟩ (by omega)) (by (repeat first | exact LE.nil _ | refine LE.unk _ _ ?_ | refine LE.eq _ _ _ rfl ?_))
 ·refine A3 (A1 (wF rfl (E5 (E6 (D7 (C8 (A1 (A2 (A0 (S8 (es := []) j4 kz kb rfl rfl j3 (S8 (es := []) j4 kz kb rfl rfl j3 ?_)))))))))))
  apply J5 [0, 0 + 1] h26 rfl j2
  ·exact (SnapL.cons _ _ _ _ (.one _ _ (H7 [] (by decide) (by exact Q0) rfl rfl)) (SnapL.cons _ _ _ _ (.one _ _ (H7 [] (by decide) (by exact Q0) rfl rfl)) SnapL.nil))
  ·rfl
  ·rfl
  ·rfl
  refine rmT j5 (T6 j6 (T6 j6 (T6 j6 (H3 j6 ?_))))
  (apply D4 (u := .agg [.int _ _, .int _ _, _, _]) j3; exact Q0; exact C7; rfl; rfl; rfl; exact Q41; exact kb; rfl; exact j2)
  refine raL j5 (D0 j5 (A3 (A1 (A2 (A2 (A0 (D0 j5 (A3 (A1 (B3 (F0 ?_)))))))))))
  refine E9 (fun (a : Nat × Nl × Nat) => [.unk, .unk, .unk, .sl true true (L.map Rq.T), .sl true true (Tm.map iT), .unk, .unk, .unk, .unk, .unk, .ptr 2 0 0, .unk, .unk, .int .i64 a.1]) (fun (a : Nat × Nl × Nat) => hp [(2, ⟨[tbV (runT L Tm a.1).1 a.2.1], 4, 35⟩)]) (fun (a : Nat × Nl × Nat) => a.2.2) (fun (a : Nat × Nl × Nat) => a.1 ≤ L.length ∧ NilM (runT L Tm a.1).1 a.2.1 ∧ 3 ≤ a.2.2) (fun (a : Nat × Nl × Nat) => L.length - a.1) ⟨0, (fun _ => true, true, true), 3⟩ ?_ ?_ ?_ ?_ ?_
  ·exact ⟨Nat.zero_le _, nilAll _, Nat.le_refl _⟩
  ·(repeat first | exact LE.nil _ | refine LE.unk _ _ ?_ | refine LE.eq _ _ _ rfl ?_)
  ·(repeat first | exact E2 | (refine E3 ?_ ?_; exact S4))
  ·exact Nat.le_refl _
  intro ⟨i, ⟨N, b1, b2⟩, m⟩ hI ih
  have ih0 := ih
  obtain ⟨q0, hx, q5⟩ := hI
  dsimp only at q0 hx q5 ⊢
  obtain ⟨r1, r2, r3, r4⟩ := J2 hR i q0
  have hk4 := r1.2.2.1
  refine E8 (A2 (A2 (A0 (B6 j5 (I8 j5 (H0 rfl rfl rfl j3 ?_))))))
  refine I6 j6 ?_ ?_ <;> intro h18_3
  ·refine A3 (A1 (wT rfl (B0 (A1 (A2 (B3 (A2 ?_)))))))
   have hi : i < L.length := by omega
   have hrok := (hR.1 _ (G3 (L := L) (i := i) (d := Rq0) hi)).1
   have hton : 0 ≤ Tm.getD i 0 ∧ Tm.getD i 0 ≤ 1000000000 := by have := hR.2.1 _ (G3 (L := Tm) (i := i) (d := 0) (by omega)); omega
   have hq := BJ r1 hrok hton (by omega)
   have hY : (runT L Tm (i + 1)).1.OK := hq.OK (by omega)
   obtain ⟨y, hy', h27'⟩ := p27N (runT L Tm i).1 ⟨N, b1, b2⟩ hx (Tm.getD i 0) (L.getD i Rq0)
   rw [BH ⟨r1, hrok⟩ hton (by omega)] at hy' h27'
   have hy : NilM (runT L Tm (i + 1)).1 y := hy'
   have h27 : Pure En 27 [.agg ((runT L Tm i).1.M ⟨N, b1, b2⟩), .one (.int .i64 (Tm.getD i 0)), .agg (L.getD i Rq0).T] [.agg ((runT L Tm (i + 1)).1.M y), .agg (rqT (runT L Tm i).1 (Tm.getD i 0) (L.getD i Rq0)).2.T, .one (.int .i64 0)] := h27'
   have hat := fun k (hk : k < (runT L Tm i).1.lk.length) => rqT_at (r := L.getD i Rq0) r1 hrok hton (by omega) hk
   refine C2 [0, 0, 0, 6, 14, 0, 0, 96, 224, 511, 1023, 2047, 2047, 2047, 0, 0, 53247, 122879, 262143] rfl (by decide +kernel) ?_
   (apply L8 (vs := [.int _ _, .int _ _, _, _]) j2; exact Q0; exact C7; rfl; exact kb; exact j4)
   refine BL j5 (I0 j5 ?_)
   (apply K6 j4; exact H1; exact Q7; exact j4)
   refine N1 (v := .int _ _) j8 (BL j5 (I0 j5 ?_))
   (apply K6 j4; exact H1; exact Q7; exact j4)
   refine dlir (vs := [.int _ _, .int _ _, .int _ _, .int _ _, .str _]) j3 kb j4 ?_
   apply O8 [] h27 rfl j2
   ·exact (SnapL.cons _ _ _ _ (SnapC.agg (.cons _ _ _ _ (.int _ _) (.cons _ _ _ _ (.int _ _) (.cons _ _ _ _ (snapT _ (fun h => by cases h)) (.cons _ _ _ _ (snapT _ (fun h => by cases h)) .nil))))) (SnapL.cons _ _ _ _ (.one _ _ (.int _ _)) (SnapL.cons _ _ _ _ (SnapC.agg (.cons _ _ _ _ (.int _ _) (.cons _ _ _ _ (.int _ _) (.cons _ _ _ _ (.int _ _) (.cons _ _ _ _ (.int _ _) (.cons _ _ _ _ (.str _) .nil)))))) SnapL.nil)))
   ·rfl
   ·rfl
   ·rfl
   refine dmT j5 (dex j6 (dex j6 (dex j6 (dal j6 (dal j6 ?_)))))
   (apply dst (u := .agg [.int _ _, .int _ _, _, _]) rfl rfl rfl; exact Q0; exact C7; rfl; rfl; rfl; exact Q41; exact kb; rfl; rfl; rfl)
   (apply dst (u := .agg [.int _ _, .int _ _, .int _ _, .int _ _]) rfl rfl rfl; exact Q0; exact C7; rfl; rfl; rfl; exact Q41; exact kb; rfl; rfl; rfl)
   refine daI j5 (B1 19 [0, 3, 3, 3, 3, 0, 0, 0, 0, 0, 0, 0, 0, 0, 0, 0, 0, 0, 1] [(0, 14), (0, 15), (14, 15)] j2 (by decide +kernel) ?_ ?_)
   ·(simp [ClearL, ids]; try omega)
   refine A1 (A2 (A2 (A0 (B6 j5 ?_))))
   refine rne j6 (fun h => absurd h ((fun hh => hh rfl))) ?_
   intro h21_1
   refine A3 (A1 (wF rfl (B0 (A1 (A2 (A2 (A0 (D0 j5 (A3 (A1 (B3 (F0 ?_))))))))))))
   refine E9 (fun (a : Nat × Nat) => [.unk, .unk, .unk, .sl true true (L.map Rq.T), .sl true true (Tm.map iT), .unk, .unk, .unk, .unk, .unk, .ptr 2 0 0, .unk, .unk, .int .i64 i, .ptr m 0 0, .unk, .unk, .int .i64 a.1]) (fun (a : Nat × Nat) => hp [(2, ⟨[tbV (runT L Tm i).1 (N, b1, b2)], 4, 35⟩), (m, ⟨[tbV (runT L Tm (i + 1)).1 y], 4, 35⟩)]) (fun (a : Nat × Nat) => a.2) (fun (a : Nat × Nat) => a.1 ≤ (runT L Tm i).1.lk.length ∧ m + 1 + 1 ≤ a.2) (fun (a : Nat × Nat) => (runT L Tm i).1.lk.length - a.1) ⟨0, m + 1 + 1⟩ ?_ ?_ ?_ ?_ ?_
   ·exact ⟨Nat.zero_le _, Nat.le_refl _⟩
   ·(repeat first | exact LE.nil _ | refine LE.unk _ _ ?_ | refine LE.eq _ _ _ rfl ?_)
   ·(repeat first | exact E2 | (refine E3 ?_ ?_; exact S4))
   ·exact Nat.le_refl _
   intro ⟨k, mm⟩ hI ih
   obtain ⟨p0, p1⟩ := hI
   dsimp only at p0 p1 ⊢
   refine E8 (A2 (A2 (A0 (B6 j5 (C1 (off := 2) (s := 1) (r := false) j3 kz j3 ?_)))))
   (apply C5 j2; exact Q0; rfl; exact j5)
   refine H0 rfl rfl (lenN hx) j3 ?_
   refine I6 j6 ?_ ?_ <;> intro h24_4
   ·refine A3 (A1 (wT rfl (B0 (A1 (A2 (B3 (A2 ?_)))))))
    have hk : k < (runT L Tm i).1.lk.length := by omega
    obtain rfl : b1 = true := by
     cases b1
     ·have := hx.l rfl; rw [this] at hk; exact absurd hk (Nat.not_lt_zero _)
     ·rfl
    obtain ⟨ha1, ha2, ha3⟩ := hat k hk
    have hat3 : ((runT L Tm i).1.lk.getD k Lk0).hd ≠ -1 → (((runT L Tm (i + 1)).1.lk.getD (pos ((runT L Tm i).1.lk.getD k Lk0).nm (runT L Tm (i + 1)).1.lk) Lk0).tk = ((runT L Tm i).1.lk.getD k Lk0).tk ∧ ((runT L Tm (i + 1)).1.lk.getD (pos ((runT L Tm i).1.lk.getD k Lk0).nm (runT L Tm (i + 1)).1.lk) Lk0).hd = ((runT L Tm i).1.lk.getD k Lk0).hd) ∨ ((runT L Tm i).1.lk.getD k Lk0).ex ≤ (runT L Tm (i + 1)).1.tm ∨ ((L.getD i Rq0).kd = 2 ∧ (L.getD i Rq0).cl = ((runT L Tm i).1.lk.getD k Lk0).hd ∧ (L.getD i Rq0).nm = ((runT L Tm i).1.lk.getD k Lk0).nm) := ha3
    have h12 := p12N (runT L Tm (i + 1)).1 y hy ((runT L Tm i).1.lk.getD k Lk0).nm (by have := (r1.2.2.2.2.1 k hk).1.1.1; omega) hY ha1
    refine A0 (C1 (off := 2) (s := 1) (r := false) j3 kz j3 ?_)
    (apply C5 (v := .sl _ _ _) j2; exact Q0; exact C7; exact j5)
    refine B6 j5 ?_
    (apply N0 j4; exact H1; exact Q7; exact j4)
    refine T7 (vs := [.str _, .int _ _, .int _ _, .int _ _, _]) j3 kb j4 (H3 j6 ?_)
    (apply D4 (u := .agg [.str _, .int _ _, .int _ _, .int _ _, _]) j3; exact Q0; exact C7; rfl; rfl; rfl; exact Q41; exact kb; rfl; exact j2)
    refine A3 (A1 (A2 (A0 ?_)))
    (apply F9 (vs := [.int _ _, .int _ _, _, _]) j2; exact Q0; exact C7; rfl; exact kb; rfl; exact j3)
    refine C1 (off := 0) (s := 1) (r := false) j3 kz j3 ?_
    (apply C5 (v := .str _) j2; exact Q0; exact C7; exact j5)
    apply J5 [] h12 rfl j2
    ·exact (SnapL.cons _ _ _ _ (SnapC.agg (.cons _ _ _ _ (.int _ _) (.cons _ _ _ _ (.int _ _) (.cons _ _ _ _ (snapT _ (fun h => by cases h)) (.cons _ _ _ _ (snapT _ (fun h => by cases h)) .nil))))) (SnapL.cons _ _ _ _ (.one _ _ (.str _)) SnapL.nil))
    ·rfl
    ·rfl
    ·rfl
    refine rmT j5 (T6 j6 (T6 j6 (H3 j6 ?_)))
    (apply D4 (u := .agg [.str _, .int _ _, .int _ _, .int _ _, _]) j3; exact Q0; exact C7; rfl; rfl; rfl; exact Q41; exact kb; rfl; exact j2)
    refine D0 j5 (A3 (A1 (A2 (A2 (A0 (B6 j5 ?_))))))
    refine rne j6 (fun h => absurd h ((fun hh => hh rfl))) ?_
    intro h28_1
    refine A3 (A1 (wF rfl (B0 (A1 (A2 (A0 (C1 (off := 2) (s := 1) (r := false) j3 kz j3 ?_)))))))
    (apply C5 (v := .int _ _) j2; exact Q0; exact C7; exact j5)
    refine rge j6 ?_ ?_ <;> intro h30_2
    ·refine C4 j5 (C1 (off := 1) (s := 1) (r := false) j3 kz j3 ?_)
     (apply C5 (v := .int _ _) j2; exact Q0; exact C7; exact j5)
     refine C1 (off := 1) (s := 1) (r := false) j3 kz j3 ?_
     (apply C5 (v := .int _ _) j2; exact Q0; exact C7; exact j5)
     refine rne j6 ?_ ?_ <;> intro h30_8
     ·refine C4 j5 (A4 j3 (A4 j3 (A4 j3 (A4 j3 (A4 j3 (C0 (e := true) j6 (C0 (e := true) j6 (A3 (A1 (wT rfl (A2 (A0 ?_))))))))))))
      refine C1 (off := 3) (s := 1) (r := false) j3 kz j3 ?_
      (apply C5 (v := .int _ _) j2; exact Q0; exact C7; exact j5)
      refine C1 (off := 0) (s := 1) (r := false) j3 kz j3 ?_
      (apply C5 (v := .int _ _) j2; exact Q0; exact C7; exact j5)
      refine rle j6 ?_ ?_ <;> intro h31_4
      ·refine C6 j5 (A3 (A1 (A2 (C2 [0, 0, 3, 7, 15, 31, 63, 127, 127, 511, 1023, 2047, 127, 4223, 16383, 32767, 65535, 131071, 131071, 524287, 1048575, 2097151, 131071, 4325375, 16777215, 33554431, 67108863] rfl (by decide +kernel) ?_))))
       refine BL j5 (I0 j5 ?_)
       (apply K6 j4; exact H1; exact Q7; exact j4)
       refine U6 (off := 2) (s := 1) (r := false) j3 kz j4 (N1 (v := .int _ _) j8 ?_)
       refine deq j6 ?_ ?_ <;> intro h32_5
       ·refine H8 j5 (BL j5 (I0 j5 ?_))
        (apply K6 j4; exact H1; exact Q7; exact j4)
        refine U6 (off := 0) (s := 1) (r := false) j3 kz j4 (N1 (v := .int _ _) j8 (D6 (off := 2) (s := 1) (r := false) j3 kz j3 ?_))
        (apply E1 (v := .int _ _) j2; exact Q0; exact C7; exact j5)
        refine deq j6 ?_ ?_ <;> intro h32_14
        ·refine G5 (e := true) j6 (H8 j5 (BL j5 (I0 j5 ?_)))
         (apply K6 j4; exact H1; exact Q7; exact j4)
         refine U6 (off := 4) (s := 1) (r := false) j3 kz j4 (N1 (v := .str _) j8 (D6 (off := 0) (s := 1) (r := false) j3 kz j3 ?_))
         (apply E1 (v := .str _) j2; exact Q0; exact C7; exact j5)
         refine dseq j6 ?_ ?_ <;> intro h32_24
         ·refine G5 (e := true) j6 (K3 j5 (B1 27 [0, 0, 0, 1, 0, 0, 0, 0, 0, 0, 0, 0, 0, 1, 0, 0, 0, 0, 0, 0, 0, 0, 0, 0, 0, 0, 0] [] j2 (by decide +kernel) trivial ?_))
          refine A1 (A2 (A0 (C4 j5 (D5 (c := true) j5 (C4 j5 (A4 j3 (A4 j3 (C0 (e := false) j6 (A3 (A1 (wF rfl (B0 ?_))))))))))))
          refine B7 (A1 (A0 (B6 j5 (C3 j3 ?_ ?_ j3 ?_))))
          ·exact H1
          ·exact H1
          refine D0 j5 (A3 (D1 ?_))
          exact H4 (ih ⟨k + 1, mm + 1 + 1⟩ ⟨by dsimp only; omega, by dsimp only; omega⟩ (by dsimp only; omega)) (by (repeat first | exact LE.nil _ | refine LE.unk _ _ ?_ | refine LE.eq _ _ _ rfl ?_)) (by (repeat first | exact E2 | (refine E3 ?_ ?_; exact S4))) (Nat.le_refl _)
         ·refine G5 (e := false) j6 (K3 j5 (B1 27 [0, 0, 0, 1, 0, 0, 0, 0, 0, 0, 0, 0, 0, 1, 0, 0, 0, 0, 0, 0, 0, 0, 0, 0, 0, 0, 0] [] j2 (by decide +kernel) trivial ?_))
          refine A1 (A2 (A0 (C4 j5 (D5 (c := true) j5 (C4 j5 (A4 j3 (A4 j3 (C0 (e := false) j6 (A3 (A1 (wF rfl (B0 ?_))))))))))))
          refine B7 (A1 (A0 (B6 j5 (C3 j3 ?_ ?_ j3 ?_))))
          ·exact H1
          ·exact H1
          refine D0 j5 (A3 (D1 ?_))
          exact H4 (ih ⟨k + 1, mm + 1 + 1⟩ ⟨by dsimp only; omega, by dsimp only; omega⟩ (by dsimp only; omega)) (by (repeat first | exact LE.nil _ | refine LE.unk _ _ ?_ | refine LE.eq _ _ _ rfl ?_)) (by (repeat first | exact E2 | (refine E3 ?_ ?_; exact S4))) (Nat.le_refl _)
        ·refine G5 (e := false) j6 (H8 j5 (A6 j3 (A6 j3 (A6 j3 (A6 j3 (A6 j3 (A6 j3 (A6 j3 (A6 j3 (G5 (e := false) j6 (K3 j5 (B1 27 [0, 0, 0, 0, 0, 0, 0, 0, 0, 0, 0, 0, 0, 1, 0, 0, 0, 0, 0, 0, 0, 0, 0, 0, 0, 0, 0] [] j2 (by decide +kernel) trivial ?_))))))))))))
         refine A1 (A2 (A0 (C4 j5 (D5 (c := true) j5 (C4 j5 (A4 j3 (A4 j3 (C0 (e := false) j6 (A3 (A1 (wF rfl (B0 ?_))))))))))))
         refine B7 (A1 (A0 (B6 j5 (C3 j3 ?_ ?_ j3 ?_))))
         ·exact H1
         ·exact H1
         refine D0 j5 (A3 (D1 ?_))
         exact H4 (ih ⟨k + 1, mm + 1 + 1⟩ ⟨by dsimp only; omega, by dsimp only; omega⟩ (by dsimp only; omega)) (by (repeat first | exact LE.nil _ | refine LE.unk _ _ ?_ | refine LE.eq _ _ _ rfl ?_)) (by (repeat first | exact E2 | (refine E3 ?_ ?_; exact S4))) (Nat.le_refl _)
       ·refine H8 j5 (A6 j3 (A6 j3 (A6 j3 (A6 j3 (A6 j3 (A6 j3 (A6 j3 (A6 j3 (G5 (e := false) j6 (H8 j5 (A6 j3 (A6 j3 ?_))))))))))))
        refine A6 j3 (A6 j3 (A6 j3 (A6 j3 (A6 j3 (A6 j3 (G5 (e := false) j6 (K3 j5 (B1 27 [0, 0, 0, 0, 0, 0, 0, 0, 0, 0, 0, 0, 0, 0, 0, 0, 0, 0, 0, 0, 0, 0, 0, 0, 0, 0, 0] [] j2 (by decide +kernel) trivial ?_))))))))
        refine A1 (A2 (A0 (C4 j5 (D5 (c := true) j5 (C4 j5 (A4 j3 (A4 j3 (C0 (e := false) j6 (A3 (A1 (wF rfl (B0 ?_))))))))))))
        refine B7 (A1 (A0 (B6 j5 (C3 j3 ?_ ?_ j3 ?_))))
        ·exact H1
        ·exact H1
        refine D0 j5 (A3 (D1 ?_))
        exact H4 (ih ⟨k + 1, mm + 1 + 1⟩ ⟨by dsimp only; omega, by dsimp only; omega⟩ (by dsimp only; omega)) (by (repeat first | exact LE.nil _ | refine LE.unk _ _ ?_ | refine LE.eq _ _ _ rfl ?_)) (by (repeat first | exact E2 | (refine E3 ?_ ?_; exact S4))) (Nat.le_refl _)
      ·refine C6 j5 (A3 (A1 (A2 (C2 [0, 0, 3, 7, 15, 31, 63, 127, 127, 511, 1023, 2047, 127, 4223, 16383, 32767, 65535, 131071, 131071, 524287, 1048575, 2097151, 131071, 4325375, 16777215, 33554431, 67108863] rfl (by decide +kernel) ?_))))
       refine BL j5 (I0 j5 ?_)
       (apply K6 j4; exact H1; exact Q7; exact j4)
       refine U6 (off := 2) (s := 1) (r := false) j3 kz j4 (N1 (v := .int _ _) j8 ?_)
       refine deq j6 ?_ ?_ <;> intro h32_5
       ·refine H8 j5 (BL j5 (I0 j5 ?_))
        (apply K6 j4; exact H1; exact Q7; exact j4)
        refine U6 (off := 0) (s := 1) (r := false) j3 kz j4 (N1 (v := .int _ _) j8 (D6 (off := 2) (s := 1) (r := false) j3 kz j3 ?_))
        (apply E1 (v := .int _ _) j2; exact Q0; exact C7; exact j5)
        refine deq j6 ?_ ?_ <;> intro h32_14
        ·refine G5 (e := true) j6 (H8 j5 (BL j5 (I0 j5 ?_)))
         (apply K6 j4; exact H1; exact Q7; exact j4)
         refine U6 (off := 4) (s := 1) (r := false) j3 kz j4 (N1 (v := .str _) j8 (D6 (off := 0) (s := 1) (r := false) j3 kz j3 ?_))
         (apply E1 (v := .str _) j2; exact Q0; exact C7; exact j5)
         refine dseq j6 ?_ ?_ <;> intro h32_24
         ·refine G5 (e := true) j6 (K3 j5 (B1 27 [0, 0, 0, 1, 0, 0, 0, 0, 0, 0, 0, 0, 0, 1, 0, 0, 0, 0, 0, 0, 0, 0, 0, 0, 0, 0, 0] [] j2 (by decide +kernel) trivial ?_))
          refine A1 (A2 (A0 (C4 j5 (D5 (c := false) j5 (C4 j5 (C4 j5 (D5 (c := true) j5 (C0 (e := false) j6 (A3 (A1 (wF rfl (B0 ?_))))))))))))
          refine B7 (A1 (A0 (B6 j5 (C3 j3 ?_ ?_ j3 ?_))))
          ·exact H1
          ·exact H1
          refine D0 j5 (A3 (D1 ?_))
          exact H4 (ih ⟨k + 1, mm + 1 + 1⟩ ⟨by dsimp only; omega, by dsimp only; omega⟩ (by dsimp only; omega)) (by (repeat first | exact LE.nil _ | refine LE.unk _ _ ?_ | refine LE.eq _ _ _ rfl ?_)) (by (repeat first | exact E2 | (refine E3 ?_ ?_; exact S4))) (Nat.le_refl _)
         ·refine G5 (e := false) j6 (K3 j5 (B1 27 [0, 0, 0, 1, 0, 0, 0, 0, 0, 0, 0, 0, 0, 1, 0, 0, 0, 0, 0, 0, 0, 0, 0, 0, 0, 0, 0] [] j2 (by decide +kernel) trivial ?_))
          refine A1 (A2 (A0 (C4 j5 (D5 (c := false) j5 (C4 j5 (C4 j5 (D5 (c := false) j5 (C0 (e := true) j6 (A3 (A1 (wT rfl (A2 ?_))))))))))))
          rcases hat3 (by omega) with ⟨e1, e2⟩ | e1 | ⟨e1, e2, e3⟩ <;> first | omega | exact absurd e3 h32_24 | fail
        ·refine G5 (e := false) j6 (H8 j5 (A6 j3 (A6 j3 (A6 j3 (A6 j3 (A6 j3 (A6 j3 (A6 j3 (A6 j3 (G5 (e := false) j6 (K3 j5 (B1 27 [0, 0, 0, 0, 0, 0, 0, 0, 0, 0, 0, 0, 0, 1, 0, 0, 0, 0, 0, 0, 0, 0, 0, 0, 0, 0, 0] [] j2 (by decide +kernel) trivial ?_))))))))))))
         refine A1 (A2 (A0 (C4 j5 (D5 (c := false) j5 (C4 j5 (C4 j5 (D5 (c := false) j5 (C0 (e := true) j6 (A3 (A1 (wT rfl (A2 ?_))))))))))))
         rcases hat3 (by omega) with ⟨e1, e2⟩ | e1 | ⟨e1, e2, e3⟩ <;> first | omega | exact absurd e3 h32_24 | fail
       ·refine H8 j5 (A6 j3 (A6 j3 (A6 j3 (A6 j3 (A6 j3 (A6 j3 (A6 j3 (A6 j3 (G5 (e := false) j6 (H8 j5 (A6 j3 (A6 j3 ?_))))))))))))
        refine A6 j3 (A6 j3 (A6 j3 (A6 j3 (A6 j3 (A6 j3 (G5 (e := false) j6 (K3 j5 (B1 27 [0, 0, 0, 0, 0, 0, 0, 0, 0, 0, 0, 0, 0, 0, 0, 0, 0, 0, 0, 0, 0, 0, 0, 0, 0, 0, 0] [] j2 (by decide +kernel) trivial ?_))))))))
        refine A1 (A2 (A0 (C4 j5 (D5 (c := false) j5 (C4 j5 (C4 j5 (D5 (c := false) j5 (C0 (e := true) j6 (A3 (A1 (wT rfl (A2 ?_))))))))))))
        rcases hat3 (by omega) with ⟨e1, e2⟩ | e1 | ⟨e1, e2, e3⟩ <;> first | omega | exact absurd e3 h32_24 | fail
     ·refine C4 j5 (C1 (off := 2) (s := 1) (r := false) j3 kz j3 ?_)
      (apply C5 (v := .int _ _) j2; exact Q0; exact C7; exact j5)
      refine C1 (off := 2) (s := 1) (r := false) j3 kz j3 ?_
      (apply C5 (v := .int _ _) j2; exact Q0; exact C7; exact j5)
      refine rne j6 ?_ ?_ <;> intro h30_14
      ·refine C0 (e := true) j6 (C0 (e := true) j6 (A3 (A1 (wT rfl (A2 (A0 (C1 (off := 3) (s := 1) (r := false) j3 kz j3 ?_)))))))
       (apply C5 (v := .int _ _) j2; exact Q0; exact C7; exact j5)
       refine C1 (off := 0) (s := 1) (r := false) j3 kz j3 ?_
       (apply C5 (v := .int _ _) j2; exact Q0; exact C7; exact j5)
       refine rle j6 ?_ ?_ <;> intro h31_4
       ·refine C6 j5 (A3 (A1 (A2 (C2 [0, 0, 3, 7, 15, 31, 63, 127, 127, 511, 1023, 2047, 127, 4223, 16383, 32767, 65535, 131071, 131071, 524287, 1048575, 2097151, 131071, 4325375, 16777215, 33554431, 67108863] rfl (by decide +kernel) ?_))))
        refine BL j5 (I0 j5 ?_)
        (apply K6 j4; exact H1; exact Q7; exact j4)
        refine U6 (off := 2) (s := 1) (r := false) j3 kz j4 (N1 (v := .int _ _) j8 ?_)
        refine deq j6 ?_ ?_ <;> intro h32_5
        ·refine H8 j5 (BL j5 (I0 j5 ?_))
         (apply K6 j4; exact H1; exact Q7; exact j4)
         refine U6 (off := 0) (s := 1) (r := false) j3 kz j4 (N1 (v := .int _ _) j8 (D6 (off := 2) (s := 1) (r := false) j3 kz j3 ?_))
         (apply E1 (v := .int _ _) j2; exact Q0; exact C7; exact j5)
         refine deq j6 ?_ ?_ <;> intro h32_14
         ·refine G5 (e := true) j6 (H8 j5 (BL j5 (I0 j5 ?_)))
          (apply K6 j4; exact H1; exact Q7; exact j4)
          refine U6 (off := 4) (s := 1) (r := false) j3 kz j4 (N1 (v := .str _) j8 (D6 (off := 0) (s := 1) (r := false) j3 kz j3 ?_))
          (apply E1 (v := .str _) j2; exact Q0; exact C7; exact j5)
          refine dseq j6 ?_ ?_ <;> intro h32_24
          ·refine G5 (e := true) j6 (K3 j5 (B1 27 [0, 0, 0, 1, 0, 0, 0, 0, 0, 0, 0, 0, 0, 1, 0, 0, 0, 0, 0, 0, 0, 0, 0, 0, 0, 0, 0] [] j2 (by decide +kernel) trivial ?_))
           refine A1 (A2 (A0 (C4 j5 (D5 (c := true) j5 (C4 j5 (A4 j3 (A4 j3 (C0 (e := false) j6 (A3 (A1 (wF rfl (B0 ?_))))))))))))
           refine B7 (A1 (A0 (B6 j5 (C3 j3 ?_ ?_ j3 ?_))))
           ·exact H1
           ·exact H1
           refine D0 j5 (A3 (D1 ?_))
           exact H4 (ih ⟨k + 1, mm + 1 + 1⟩ ⟨by dsimp only; omega, by dsimp only; omega⟩ (by dsimp only; omega)) (by (repeat first | exact LE.nil _ | refine LE.unk _ _ ?_ | refine LE.eq _ _ _ rfl ?_)) (by (repeat first | exact E2 | (refine E3 ?_ ?_; exact S4))) (Nat.le_refl _)
          ·refine G5 (e := false) j6 (K3 j5 (B1 27 [0, 0, 0, 1, 0, 0, 0, 0, 0, 0, 0, 0, 0, 1, 0, 0, 0, 0, 0, 0, 0, 0, 0, 0, 0, 0, 0] [] j2 (by decide +kernel) trivial ?_))
           refine A1 (A2 (A0 (C4 j5 (D5 (c := true) j5 (C4 j5 (A4 j3 (A4 j3 (C0 (e := false) j6 (A3 (A1 (wF rfl (B0 ?_))))))))))))
           refine B7 (A1 (A0 (B6 j5 (C3 j3 ?_ ?_ j3 ?_))))
           ·exact H1
           ·exact H1
           refine D0 j5 (A3 (D1 ?_))
           exact H4 (ih ⟨k + 1, mm + 1 + 1⟩ ⟨by dsimp only; omega, by dsimp only; omega⟩ (by dsimp only; omega)) (by (repeat first | exact LE.nil _ | refine LE.unk _ _ ?_ | refine LE.eq _ _ _ rfl ?_)) (by (repeat first | exact E2 | (refine E3 ?_ ?_; exact S4))) (Nat.le_refl _)
         ·refine G5 (e := false) j6 (H8 j5 (A6 j3 (A6 j3 (A6 j3 (A6 j3 (A6 j3 (A6 j3 (A6 j3 (A6 j3 (G5 (e := false) j6 (K3 j5 (B1 27 [0, 0, 0, 0, 0, 0, 0, 0, 0, 0, 0, 0, 0, 1, 0, 0, 0, 0, 0, 0, 0, 0, 0, 0, 0, 0, 0] [] j2 (by decide +kernel) trivial ?_))))))))))))
          refine A1 (A2 (A0 (C4 j5 (D5 (c := true) j5 (C4 j5 (A4 j3 (A4 j3 (C0 (e := false) j6 (A3 (A1 (wF rfl (B0 ?_))))))))))))
          refine B7 (A1 (A0 (B6 j5 (C3 j3 ?_ ?_ j3 ?_))))
          ·exact H1
          ·exact H1
          refine D0 j5 (A3 (D1 ?_))
          exact H4 (ih ⟨k + 1, mm + 1 + 1⟩ ⟨by dsimp only; omega, by dsimp only; omega⟩ (by dsimp only; omega)) (by (repeat first | exact LE.nil _ | refine LE.unk _ _ ?_ | refine LE.eq _ _ _ rfl ?_)) (by (repeat first | exact E2 | (refine E3 ?_ ?_; exact S4))) (Nat.le_refl _)
        ·refine H8 j5 (A6 j3 (A6 j3 (A6 j3 (A6 j3 (A6 j3 (A6 j3 (A6 j3 (A6 j3 (G5 (e := false) j6 (H8 j5 (A6 j3 (A6 j3 ?_))))))))))))
         refine A6 j3 (A6 j3 (A6 j3 (A6 j3 (A6 j3 (A6 j3 (G5 (e := false) j6 (K3 j5 (B1 27 [0, 0, 0, 0, 0, 0, 0, 0, 0, 0, 0, 0, 0, 0, 0, 0, 0, 0, 0, 0, 0, 0, 0, 0, 0, 0, 0] [] j2 (by decide +kernel) trivial ?_))))))))
         refine A1 (A2 (A0 (C4 j5 (D5 (c := true) j5 (C4 j5 (A4 j3 (A4 j3 (C0 (e := false) j6 (A3 (A1 (wF rfl (B0 ?_))))))))))))
         refine B7 (A1 (A0 (B6 j5 (C3 j3 ?_ ?_ j3 ?_))))
         ·exact H1
         ·exact H1
         refine D0 j5 (A3 (D1 ?_))
         exact H4 (ih ⟨k + 1, mm + 1 + 1⟩ ⟨by dsimp only; omega, by dsimp only; omega⟩ (by dsimp only; omega)) (by (repeat first | exact LE.nil _ | refine LE.unk _ _ ?_ | refine LE.eq _ _ _ rfl ?_)) (by (repeat first | exact E2 | (refine E3 ?_ ?_; exact S4))) (Nat.le_refl _)
       ·refine C6 j5 (A3 (A1 (A2 (C2 [0, 0, 3, 7, 15, 31, 63, 127, 127, 511, 1023, 2047, 127, 4223, 16383, 32767, 65535, 131071, 131071, 524287, 1048575, 2097151, 131071, 4325375, 16777215, 33554431, 67108863] rfl (by decide +kernel) ?_))))
        refine BL j5 (I0 j5 ?_)
        (apply K6 j4; exact H1; exact Q7; exact j4)
        refine U6 (off := 2) (s := 1) (r := false) j3 kz j4 (N1 (v := .int _ _) j8 ?_)
        refine deq j6 ?_ ?_ <;> intro h32_5
        ·refine H8 j5 (BL j5 (I0 j5 ?_))
         (apply K6 j4; exact H1; exact Q7; exact j4)
         refine U6 (off := 0) (s := 1) (r := false) j3 kz j4 (N1 (v := .int _ _) j8 (D6 (off := 2) (s := 1) (r := false) j3 kz j3 ?_))
         (apply E1 (v := .int _ _) j2; exact Q0; exact C7; exact j5)
         refine deq j6 ?_ ?_ <;> intro h32_14
         ·refine G5 (e := true) j6 (H8 j5 (BL j5 (I0 j5 ?_)))
          (apply K6 j4; exact H1; exact Q7; exact j4)
          refine U6 (off := 4) (s := 1) (r := false) j3 kz j4 (N1 (v := .str _) j8 (D6 (off := 0) (s := 1) (r := false) j3 kz j3 ?_))
          (apply E1 (v := .str _) j2; exact Q0; exact C7; exact j5)
          refine dseq j6 ?_ ?_ <;> intro h32_24
          ·refine G5 (e := true) j6 (K3 j5 (B1 27 [0, 0, 0, 1, 0, 0, 0, 0, 0, 0, 0, 0, 0, 1, 0, 0, 0, 0, 0, 0, 0, 0, 0, 0, 0, 0, 0] [] j2 (by decide +kernel) trivial ?_))
           refine A1 (A2 (A0 (C4 j5 (D5 (c := false) j5 (C4 j5 (C4 j5 (D5 (c := true) j5 (C0 (e := false) j6 (A3 (A1 (wF rfl (B0 ?_))))))))))))
           refine B7 (A1 (A0 (B6 j5 (C3 j3 ?_ ?_ j3 ?_))))
           ·exact H1
           ·exact H1
           refine D0 j5 (A3 (D1 ?_))
           exact H4 (ih ⟨k + 1, mm + 1 + 1⟩ ⟨by dsimp only; omega, by dsimp only; omega⟩ (by dsimp only; omega)) (by (repeat first | exact LE.nil _ | refine LE.unk _ _ ?_ | refine LE.eq _ _ _ rfl ?_)) (by (repeat first | exact E2 | (refine E3 ?_ ?_; exact S4))) (Nat.le_refl _)
          ·refine G5 (e := false) j6 (K3 j5 (B1 27 [0, 0, 0, 1, 0, 0, 0, 0, 0, 0, 0, 0, 0, 1, 0, 0, 0, 0, 0, 0, 0, 0, 0, 0, 0, 0, 0] [] j2 (by decide +kernel) trivial ?_))
           refine A1 (A2 (A0 (C4 j5 (D5 (c := false) j5 (C4 j5 (C4 j5 (D5 (c := false) j5 (C0 (e := true) j6 (A3 (A1 (wT rfl (A2 ?_))))))))))))
           rcases hat3 (by omega) with ⟨e1, e2⟩ | e1 | ⟨e1, e2, e3⟩ <;> first | omega | exact absurd e3 h32_24 | fail
         ·refine G5 (e := false) j6 (H8 j5 (A6 j3 (A6 j3 (A6 j3 (A6 j3 (A6 j3 (A6 j3 (A6 j3 (A6 j3 (G5 (e := false) j6 (K3 j5 (B1 27 [0, 0, 0, 0, 0, 0, 0, 0, 0, 0, 0, 0, 0, 1, 0, 0, 0, 0, 0, 0, 0, 0, 0, 0, 0, 0, 0] [] j2 (by decide +kernel) trivial ?_))))))))))))
          refine A1 (A2 (A0 (C4 j5 (D5 (c := false) j5 (C4 j5 (C4 j5 (D5 (c := false) j5 (C0 (e := true) j6 (A3 (A1 (wT rfl (A2 ?_))))))))))))
          rcases hat3 (by omega) with ⟨e1, e2⟩ | e1 | ⟨e1, e2, e3⟩ <;> first | omega | exact absurd e3 h32_24 | fail
        ·refine H8 j5 (A6 j3 (A6 j3 (A6 j3 (A6 j3 (A6 j3 (A6 j3 (A6 j3 (A6 j3 (G5 (e := false) j6 (H8 j5 (A6 j3 (A6 j3 ?_))))))))))))
         refine A6 j3 (A6 j3 (A6 j3 (A6 j3 (A6 j3 (A6 j3 (G5 (e := false) j6 (K3 j5 (B1 27 [0, 0, 0, 0, 0, 0, 0, 0, 0, 0, 0, 0, 0, 0, 0, 0, 0, 0, 0, 0, 0, 0, 0, 0, 0, 0, 0] [] j2 (by decide +kernel) trivial ?_))))))))
         refine A1 (A2 (A0 (C4 j5 (D5 (c := false) j5 (C4 j5 (C4 j5 (D5 (c := false) j5 (C0 (e := true) j6 (A3 (A1 (wT rfl (A2 ?_))))))))))))
         rcases hat3 (by omega) with ⟨e1, e2⟩ | e1 | ⟨e1, e2, e3⟩ <;> first | omega | exact absurd e3 h32_24 | fail
      ·refine C0 (e := false) j6 (C0 (e := false) j6 (A3 (A1 (wF rfl (B0 (B7 (A1 (A0 (B6 j5 (C3 j3 ?_ ?_ j3 ?_))))))))))
       ·exact H1
       ·exact H1
       refine D0 j5 (A3 (D1 ?_))
       exact H4 (ih ⟨k + 1, mm + 1 + 1⟩ ⟨by dsimp only; omega, by dsimp only; omega⟩ (by dsimp only; omega)) (by (repeat first | exact LE.nil _ | refine LE.unk _ _ ?_ | refine LE.eq _ _ _ rfl ?_)) (by (repeat first | exact E2 | (refine E3 ?_ ?_; exact S4))) (Nat.le_refl _)
    ·refine C4 j5 (A4 j3 (A4 j3 (A4 j3 (A4 j3 (A4 j3 (A4 j3 (A4 j3 (A4 j3 (A4 j3 (A4 j3 (A4 j3 (A4 j3 ?_))))))))))))
     refine C0 (e := false) j6 (A3 (A1 (wF rfl (B0 (B7 (A1 (A0 (B6 j5 (C3 j3 ?_ ?_ j3 ?_)))))))))
     ·exact H1
     ·exact H1
     refine D0 j5 (A3 (D1 ?_))
     exact H4 (ih ⟨k + 1, mm + 1 + 1⟩ ⟨by dsimp only; omega, by dsimp only; omega⟩ (by dsimp only; omega)) (by (repeat first | exact LE.nil _ | refine LE.unk _ _ ?_ | refine LE.eq _ _ _ rfl ?_)) (by (repeat first | exact E2 | (refine E3 ?_ ?_; exact S4))) (Nat.le_refl _)
   ·refine A3 (A1 (wF rfl (E5 (E6 (D7 (C8 (A1 (A0 ?_))))))))
    (apply F9 (vs := [.int _ _, .int _ _, _, _]) j2; exact Q0; exact C7; rfl; exact kb; rfl; exact j3)
    (apply D4 (u := .agg [.int _ _, .int _ _, _, _]) j3; exact Q0; exact C7; rfl; rfl; rfl; exact Q41; exact kb; rfl; exact j2)
    refine A3 (B7 (A1 (A0 (B6 j5 (C3 j3 ?_ ?_ j3 ?_)))))
    ·exact H1
    ·exact H1
    refine D0 j5 (A3 (D1 ?_))
    exact H4 (ih0 ⟨i + 1, y, mm⟩ ⟨by dsimp only; omega, hy, by dsimp only; omega⟩ (by dsimp only; omega)) (by (repeat first | exact LE.nil _ | refine LE.unk _ _ ?_ | refine LE.eq _ _ _ rfl ?_)) (by (repeat first | exact E2 | (refine E3 ?_ ?_; exact S4))) (Nat.le_refl _)
  ·refine A3 (A1 (wF rfl (E5 (E6 (D7 (C8 (A1 (A2 (A0 (C6 j5 (A3 (A1 ?_))))))))))))
   refine A9 ?_
   exact fin rfl rfl
theorem fence_any (n1 : Bool) (B : List Int) (hB : bytes B) : Pure En 5 [.one (.sl n1 (B.map bT))] [.one (.bool true)] := by
 by_cases hb : B.length ≤ 1048576
 ·obtain ⟨⟨L, Tm⟩, hR, h21, h22⟩ := s21 n1 B hB (by omega)
  dsimp only at hR h21 h22
  exact fence_walk n1 B hb L Tm hR h21 h22
 ·have hbl : (B.map bT).length = B.length := List.length_map ..
  refine Pure.of_wp Try.func5 rfl kb ?_
  refine A2 (A0 (C6 j5 (A3 (A1 (A2 (A2 (A0 (I8 j5 (H0 rfl rfl rfl j3 ?_)))))))))
  refine V4 j6 ?_ ?_ <;> intro h1_2
  ·refine A3 (A1 (wT rfl (A2 (A0 (C6 j5 (A3 (A1 (A9 (B2 ?_)))))))))
   exact fin rfl rfl
  ·refine A3 (A1 (wF rfl (B0 (A1 (A2 ?_)))))
   exact absurd (by omega) hb
end Go.Proofs.Ytknnniaoboaghaa
