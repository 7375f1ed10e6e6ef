import Derived.Test.YtknnniaoboaghaaL15
namespace Go.Proofs.Ytknnniaoboaghaa
open Go.V
set_option linter.unusedVariables false
set_option linter.unusedSimpArgs false
set_option maxRecDepth 20000
set_option maxHeartbeats 4000000
abbrev tbV (t : Tb) (x : Nl) : List V := [.int .i64 t.tm, .int .i64 t.nx, T.toV true (nlT x.2.1 (lksN x.1 t.lk)), T.toV true (nlT x.2.2 (t.sn.map Sn.T))]
theorem N3 {a b : Int} {c d : Bool} {rs ss : List (List V.T)} {fr f2 : Bool} : (V.agg [.int .i64 a, .int .i64 b, T.toV fr (nlT c rs), T.toV f2 (nlT d ss)]).cells.all V.cell = true := by
 show ((T.toV fr (nlT c rs)).cell && ((T.toV f2 (nlT d ss)).cell && true)) = true
 rw [U8, U8]; rfl
theorem nilAll (t : Tb) : NilM t (fun _ => true, true, true) := ⟨nofun, nofun, nofun⟩
theorem Pure.ofN2 {f : FuncId} {t u : Tb} {x y : Nl} (hN : NilM t x) (hM : NilM u y) {rs : List A} (hp : Pure En f [.agg (t.T false false false), .agg (u.T false false false)] rs) : Pure En f [.agg (t.M x), .agg (u.M y)] rs := by
 have hq := Pure.ofN hN hp
 unfold V.Pure at hq ⊢
 refine ⟨hq.1, fun I w vs h1 h2 h3 h4 => hq.2 I w vs h1 h2 (by rw [← h3]; rfl) fun i a v ha hv => ?_⟩
 match i with
 | 0 => exact h4 0 a v ha hv
 | 1 =>
  have ha : some (A.agg (u.T false false false)) = some a := ha
  cases ha
  exact AR_N hM (h4 1 _ v rfl hv)
 | i + 2 => exact h4 (i + 2) a v ha hv
theorem lenN {t : Tb} {x : Nl} {fr : Bool} (h : NilM t x) : lenV (T.toV fr (nlT x.2.1 (lksN x.1 t.lk))) = some t.lk.length := by
 obtain ⟨N, b1, b2⟩ := x
 cases b1 with
 | true => exact congrArg some (K5 N t.lk)
 | false => have := h.l rfl; rw [this]; rfl
theorem eqAn3 {a b : An} (h : b = a) : eqV En.P 10000 60 (.agg a.V) (.agg b.V) = some true := by rw [h]; exact eqAn2 a
theorem runT_get {L : List Rq} {Tm : List Int} {i : Nat} : ∀ {n : Nat}, i < n → (runT L Tm n).2.getD i ⟨0, 0, 0, 0⟩ = (rqT (runT L Tm i).1 (Tm.getD i 0) (L.getD i Rq0)).2
 | 0, h => absurd h (Nat.not_lt_zero _)
 | n + 1, h => by
  show ((runT L Tm n).2 ++ [_]).getD i _ = _
  have hl := K4 L Tm n
  by_cases e : i = n
  ·subst e
   rw [List.getD_eq_getElem?_getD, List.getElem?_append_right (by omega), hl, Nat.sub_self]; rfl
  ·rw [List.getD_eq_getElem?_getD, List.getElem?_append_left (by omega), ← List.getD_eq_getElem?_getD]
   exact runT_get (by omega)
theorem locks_walk (n1 : Bool) (B : List Int) (hB : B.length ≤ 1048576) (L : List Rq) (Tm : List Int) (hR : Reqs L Tm) (y0 : Nl) (hy0 : NilM (runT L Tm L.length).1 y0)
  (h21 : Pure En 21 [.one (.sl n1 (B.map bT))] [.one (.sl true (L.map Rq.T))]) (h22 : Pure En 22 [.one (.sl n1 (B.map bT))] [.one (.sl true (Tm.map iT))])
  (h33 : Pure En 33 [.one (.sl true (L.map Rq.T)), .one (.sl true (Tm.map iT))] [.agg ((runT L Tm L.length).1.M y0), .one (.sl false ((runT L Tm L.length).2.map An.T)), .one (.int .i64 0)]) :
  Pure En 7 [.one (.sl n1 (B.map bT))] [.one (.bool true)] := by
 have hb : (B.map bT).length = B.length := List.length_map ..
 have hl1 : (L.map Rq.T).length = L.length := List.length_map ..
 have hl2 : (Tm.map iT).length = Tm.length := List.length_map ..
 have hl3 := hR.2.2.1
 have hl4 := hR.2.2.2
 have hE := (Y8 hR L.length (Nat.le_refl _)).1
 have h31a := Pure.ofN2 hy0 (nilAll _) (s31 (runT L Tm L.length).1 false false false hE)
 rw [show Tb.M (runT L Tm L.length).1 (fun _ => true, true, true) = _ from TbN_all _] at h31a
 have h35 := Pure.ofN hy0 (p23 (runT L Tm L.length).1 false false false)
 rw [decide_eq_true hE] at h35
 have h26 : Pure En 26 [.one (.sl true []), .one (.sl true [])] [.agg (T1.T true true true), .one (.sl true []), .one (.int .i64 0)] := s26 [] [] true true ⟨fun r h => absurd h List.not_mem_nil, fun r h => absurd h List.not_mem_nil, Nat.zero_le _, rfl⟩
 refine Pure.of_wp Try.func7 rfl kb ?_
 refine A2 (A0 (C3 j5 (A3 (A1 (A2 (A2 (A0 (J7 j5 (G7 rfl rfl rfl j3 ?_)))))))))
 refine V9 j6 (fun h => absurd h (by omega)) ?_
 intro h1_2
 refine A3 (A1 (wF rfl (B2 (A1 (A2 (A0 (J7 j5 (AS h21 rfl j5 (raL j5 (A3 (A1 (A2 ?_))))))))))))
 refine A0 (J7 j5 (AS h22 rfl j5 (raL j5 (A3 (A1 (A2 (A2 (A0 (J7 j5 (G7 rfl rfl rfl j3 ?_))))))))))
 refine V9 j6 (fun h => absurd h (by omega)) ?_
 intro h5_2
 refine A3 (A1 (wF rfl (B2 (A1 (A2 (A0 (J7 j5 (J7 j5 (AS h33 rfl j5 (rmT j5 (T8 j6 (T8 j6 ?_))))))))))))
 refine T8 j6 (H3 j6 ?_)
 (apply D6 (u := .agg [.int _ _, .int _ _, _, _]) j3; exact Q0; exact C8; rfl; rfl; rfl; (first | rfl | exact N3); exact kb; rfl; exact j2)
 refine raL j5 (D1 j5 (A3 (A1 (A2 (A0 (J7 j5 (J7 j5 (AS (s26 L Tm true true hR) rfl j5 (rmT j5 (T8 j6 (T8 j6 (T8 j6 ?_))))))))))))
 refine H3 j6 ?_
 (apply D6 (u := .agg [.int _ _, .int _ _, _, _]) j3; exact Q0; exact C8; rfl; rfl; rfl; (first | rfl | exact N3); exact kb; rfl; exact j2)
 refine raL j5 (D1 j5 (A3 (A1 (A2 (A2 (A0 (B5 j5 ?_)))))))
 refine rne j6 (fun h => absurd h ((fun hh => hh rfl))) ?_
 intro h9_1
 refine C7 j5 ?_
 (apply F7 (vs := [.int _ _, .int _ _, _, _]) j2; exact Q0; exact C8; rfl; exact kb; rfl; exact j3)
 (apply F7 (vs := [.int _ _, .int _ _, _, _]) j2; exact Q0; exact C8; rfl; exact kb; rfl; exact j3)
 apply I6 [] h31a rfl j2
 ·exact (SnapL.cons _ _ _ _ (SnapC.agg (.cons _ _ _ _ (.int _ _) (.cons _ _ _ _ (.int _ _) (.cons _ _ _ _ (N5 _ (fun h => by cases h)) (.cons _ _ _ _ (N5 _ (fun h => by cases h)) .nil))))) (SnapL.cons _ _ _ _ (SnapC.agg (.cons _ _ _ _ (.int _ _) (.cons _ _ _ _ (.int _ _) (.cons _ _ _ _ (.sl _ _ _ (fun h => by cases h)) (.cons _ _ _ _ (.sl _ _ _ (fun h => by cases h)) .nil))))) SnapL.nil))
 ·rfl
 ·rfl
 ·rfl
 refine E1 (c := true) j5 (B7 (e := false) j6 (C7 j5 (J7 j5 (J7 j5 ?_))))
 refine AS (s34 _ false true (by rw [K4]; omega)) rfl j5 ?_
 refine E1 (c := true) j5 (B7 (e := false) j6 (C7 j5 ?_))
 (apply F7 (vs := [.int _ _, .int _ _, _, _]) j2; exact Q0; exact C8; rfl; exact kb; rfl; exact j3)
 apply I6 [] h35 rfl j2
 ·exact (SnapL.cons _ _ _ _ (SnapC.agg (.cons _ _ _ _ (.int _ _) (.cons _ _ _ _ (.int _ _) (.cons _ _ _ _ (N5 _ (fun h => by cases h)) (.cons _ _ _ _ (N5 _ (fun h => by cases h)) .nil))))) SnapL.nil)
 ·rfl
 ·rfl
 ·rfl
 refine E1 (c := true) j5 (B7 (e := false) j6 (A3 (A1 (wF rfl (B2 (A1 (A2 (A0 (T9 (es := []) j4 kz kb rfl rfl j3 (T9 (es := []) j4 kz kb rfl rfl j3 ?_))))))))))
 apply I6 [0 + 1 + 1, 0 + 1 + 1 + 1] h26 rfl j2
 ·exact (SnapL.cons _ _ _ _ (.one _ _ (H8 [] (by decide) (by exact Q0) rfl rfl)) (SnapL.cons _ _ _ _ (.one _ _ (H8 [] (by decide) (by exact Q0) rfl rfl)) SnapL.nil))
 ·rfl
 ·rfl
 ·rfl
 refine rmT j5 (T8 j6 (T8 j6 (T8 j6 (H3 j6 ?_))))
 (apply D6 (u := .agg [.int _ _, .int _ _, _, _]) j3; exact Q0; exact C8; rfl; rfl; rfl; (first | rfl | exact N3); exact kb; rfl; exact j2)
 refine raL j5 (D1 j5 (A3 (A1 (A2 (A2 (A0 (D1 j5 (A3 (A1 (B4 (F0 ?_)))))))))))
 refine E4 (fun (a : Nat × Nl × Nat) => [.unk, .unk, .unk, .sl true true (L.map Rq.T), .sl true true (Tm.map iT), .ptr 0 0 0, .sl true false ((runT L Tm L.length).2.map An.T), .unk, .unk, .unk, .unk, .ptr 4 0 0, .unk, .unk, .int .i64 a.1]) (fun (a : Nat × Nl × Nat) => hp [(0, ⟨[tbV (runT L Tm L.length).1 y0], 4, 35⟩), (4, ⟨[tbV (runT L Tm a.1).1 a.2.1], 4, 35⟩)]) (fun (a : Nat × Nl × Nat) => a.2.2) (fun (a : Nat × Nl × Nat) => a.1 ≤ L.length ∧ NilM (runT L Tm a.1).1 a.2.1 ∧ 5 ≤ a.2.2) (fun (a : Nat × Nl × Nat) => L.length - a.1) ⟨0, (fun _ => true, true, true), 5⟩ ?_ ?_ ?_ ?_ ?_
 ·exact ⟨Nat.zero_le _, nilAll _, Nat.le_refl _⟩
 ·(repeat first | exact LE.nil _ | refine LE.unk _ _ ?_ | refine LE.eq _ _ _ rfl ?_)
 ·(repeat first | exact E9 | (refine F1 ?_ ?_; exact U1))
 ·exact Nat.le_refl _
 intro ⟨i, ⟨N, b1, b2⟩, m⟩ hI ih
 have ih0 := ih
 obtain ⟨q0, hx, q5⟩ := hI
 dsimp only at q0 hx q5 ⊢
 obtain ⟨r1, r2, r3, r4⟩ := Y8 hR i q0
 have hk4 := r1.2.2.1
 refine E8 (A2 (A2 (A0 (B5 j5 (J7 j5 (G7 rfl rfl rfl j3 ?_))))))
 refine H9 j6 ?_ ?_ <;> intro h13_3
 ·refine A3 (A1 (wT rfl (B2 (A1 (A2 (B4 (A2 ?_)))))))
  have hi : i < L.length := by omega
  have hrok := (hR.1 _ (I8 (L := L) (i := i) (d := Rq0) hi)).1
  have hton : 0 ≤ Tm.getD i 0 ∧ Tm.getD i 0 ≤ 1000000000 := by have := hR.2.1 _ (I8 (L := Tm) (i := i) (d := 0) (by omega)); omega
  have hq := rqT_R r1 hrok hton (by omega)
  have hY : (runT L Tm (i + 1)).1.OK := hq.OK (by omega)
  have htm : (runT L Tm i).1.tm ≤ (runT L Tm (i + 1)).1.tm := by have q := hq.tm; show (runT L Tm i).1.tm ≤ (rqT (runT L Tm i).1 (Tm.getD i 0) (L.getD i Rq0)).1.tm; omega
  have hnx : (runT L Tm i).1.nx ≤ (runT L Tm (i + 1)).1.nx := hq.nx.1
  obtain ⟨y, hy', h27'⟩ := p27N (runT L Tm i).1 ⟨N, b1, b2⟩ hx (Tm.getD i 0) (L.getD i Rq0)
  rw [BU ⟨r1, hrok⟩ hton (by omega)] at hy' h27'
  have hy : NilM (runT L Tm (i + 1)).1 y := hy'
  have h27 : Pure En 27 [.agg ((runT L Tm i).1.M ⟨N, b1, b2⟩), .one (.int .i64 (Tm.getD i 0)), .agg (L.getD i Rq0).T] [.agg ((runT L Tm (i + 1)).1.M y), .agg (rqT (runT L Tm i).1 (Tm.getD i 0) (L.getD i Rq0)).2.T, .one (.int .i64 0)] := h27'
  have han := runT_get (L := L) (Tm := Tm) hi
  have hat := fun k (hk : k < (runT L Tm i).1.lk.length) => rqT_at (r := L.getD i Rq0) r1 hrok hton (by omega) hk
  refine B9 [0, 0, 0, 6, 14, 0, 0, 96, 224, 511, 1023, 2047, 2047, 2047, 0, 0, 53247, 122879, 262143] rfl (by decide +kernel) ?_
  (apply L8 (vs := [.int _ _, .int _ _, _, _]) j2; exact Q0; exact C8; rfl; exact kb; exact j4)
  refine dmL j5 (I2 j5 ?_)
  (apply O4 j4; exact Z6; exact Q37; exact j4)
  refine V7 (v := .int _ _) j8 (dmL j5 (I2 j5 ?_))
  (apply O4 j4; exact Z6; exact Q37; exact j4)
  refine dlir (vs := [.int _ _, .int _ _, .int _ _, .int _ _, .str _]) j3 kb j4 ?_
  apply O5 [] h27 rfl j2
  ·exact (SnapL.cons _ _ _ _ (SnapC.agg (.cons _ _ _ _ (.int _ _) (.cons _ _ _ _ (.int _ _) (.cons _ _ _ _ (N5 _ (fun h => by cases h)) (.cons _ _ _ _ (N5 _ (fun h => by cases h)) .nil))))) (SnapL.cons _ _ _ _ (.one _ _ (.int _ _)) (SnapL.cons _ _ _ _ (SnapC.agg (.cons _ _ _ _ (.int _ _) (.cons _ _ _ _ (.int _ _) (.cons _ _ _ _ (.int _ _) (.cons _ _ _ _ (.int _ _) (.cons _ _ _ _ (.str _) .nil)))))) SnapL.nil)))
  ·rfl
  ·rfl
  ·rfl
  refine dmT j5 (dex j6 (dex j6 (dex j6 (dal j6 (dal j6 ?_)))))
  (apply dst (u := .agg [.int _ _, .int _ _, _, _]) rfl rfl rfl; exact Q0; exact C8; rfl; rfl; rfl; (first | rfl | exact N3); exact kb; rfl; rfl; rfl)
  (apply dst (u := .agg [.int _ _, .int _ _, .int _ _, .int _ _]) rfl rfl rfl; exact Q0; exact C8; rfl; rfl; rfl; (first | rfl | exact N3); exact kb; rfl; rfl; rfl)
  refine daI j5 (B3 19 [0, 3, 3, 3, 3, 0, 0, 0, 0, 0, 0, 0, 0, 0, 0, 0, 0, 0, 1] [(0, 14), (0, 15), (14, 15)] j2 (by decide +kernel) ?_ ?_)
  ·(simp [ClearL, ids]; try omega)
  refine A1 (A2 (A2 (B9 [0, 1, 3, 7, 7, 7, 55, 119, 255, 511, 1023, 2047, 4095, 2047, 10239, 32767, 65535, 131071, 262143, 524287, 262143, 1310719, 4194303, 8388607] rfl (by decide +kernel) ?_)))
  refine I2 j5 ?_
  refine dne j6 (fun h => absurd h ((fun hh => hh rfl))) ?_
  intro h16_1
  refine F9 j5 ?_
  (apply L8 (vs := [.int _ _, .int _ _, .int _ _, .int _ _]) j2; exact Q0; exact C8; rfl; exact kb; exact j4)
  refine dmL j5 (I2 j5 ?_)
  (apply O4 j4; exact Z6; exact Q37; exact j4)
  refine dlir (vs := [.int _ _, .int _ _, .int _ _, .int _ _]) j3 kb j4 ?_
  refine dSneq j3 (by kernel_rfl) (eqAn3 han) j3 (fun h => absurd h (by decide)) ?_
  intro h16_8
  refine F4 (e := false) j6 (F9 j5 (C9 (off := 0) (s := 1) (r := false) j3 kz j3 ?_))
  (apply D5 (v := .int _ _) j2; exact Q0; exact C8; exact j5)
  refine C9 (off := 0) (s := 1) (r := false) j3 kz j3 ?_
  (apply D5 (v := .int _ _) j2; exact Q0; exact C8; exact j5)
  refine dlt j6 (fun h => absurd h (by omega)) ?_
  intro h16_15
  refine F4 (e := false) j6 (F9 j5 (C9 (off := 1) (s := 1) (r := false) j3 kz j3 ?_))
  (apply D5 (v := .int _ _) j2; exact Q0; exact C8; exact j5)
  refine C9 (off := 1) (s := 1) (r := false) j3 kz j3 ?_
  (apply D5 (v := .int _ _) j2; exact Q0; exact C8; exact j5)
  refine dlt j6 (fun h => absurd h (by omega)) ?_
  intro h16_22
  refine F4 (e := false) j6 (B3 24 [0, 0, 1, 0, 1, 0, 0, 0, 0, 1, 0, 1, 0, 0, 0, 0, 0, 0, 0, 0, 1, 0, 0, 0] [] j2 (by decide +kernel) trivial ?_)
  refine A1 (wF rfl (B2 (A1 (A2 (A2 (A0 (D1 j5 (A3 (A1 (B4 (F0 ?_)))))))))))
  refine E4 (fun (a : Nat × Nat) => [.unk, .unk, .unk, .sl true true (L.map Rq.T), .sl true true (Tm.map iT), .ptr 0 0 0, .sl true false ((runT L Tm L.length).2.map An.T), .unk, .unk, .unk, .unk, .ptr 4 0 0, .unk, .unk, .int .i64 i, .ptr m 0 0, .unk, .unk, .int .i64 a.1]) (fun (a : Nat × Nat) => hp [(0, ⟨[tbV (runT L Tm L.length).1 y0], 4, 35⟩), (4, ⟨[tbV (runT L Tm i).1 (N, b1, b2)], 4, 35⟩), (m, ⟨[tbV (runT L Tm (i + 1)).1 y], 4, 35⟩)]) (fun (a : Nat × Nat) => a.2) (fun (a : Nat × Nat) => a.1 ≤ (runT L Tm i).1.lk.length ∧ m + 1 + 1 ≤ a.2) (fun (a : Nat × Nat) => (runT L Tm i).1.lk.length - a.1) ⟨0, m + 1 + 1⟩ ?_ ?_ ?_ ?_ ?_
  ·exact ⟨Nat.zero_le _, Nat.le_refl _⟩
  ·(repeat first | exact LE.nil _ | refine LE.unk _ _ ?_ | refine LE.eq _ _ _ rfl ?_)
  ·(repeat first | exact E9 | (refine F1 ?_ ?_; exact U1))
  ·exact Nat.le_refl _
  intro ⟨k, mm⟩ hI ih
  obtain ⟨p0, p1⟩ := hI
  dsimp only at p0 p1 ⊢
  refine E8 (A2 (A2 (A0 (B5 j5 (C2 (off := 2) (s := 1) (r := false) j3 kz j3 ?_)))))
  (apply C6 j2; exact Q0; rfl; exact j5)
  refine G7 rfl rfl (lenN hx) j3 ?_
  refine H9 j6 ?_ ?_ <;> intro h19_4
  ·refine A3 (A1 (wT rfl (B2 (A1 (A2 (B4 (A2 ?_)))))))
   have hk : k < (runT L Tm i).1.lk.length := by omega
   obtain rfl : b1 = true := by
    cases b1
    ·have := hx.l rfl; rw [this] at hk; exact absurd hk (Nat.not_lt_zero _)
    ·rfl
   obtain ⟨ha1, ha2, _⟩ := hat k hk
   replace ha2 : ((runT L Tm i).1.lk.getD k Lk0).tk ≤ ((runT L Tm (i + 1)).1.lk.getD (pos ((runT L Tm i).1.lk.getD k Lk0).nm (runT L Tm (i + 1)).1.lk) Lk0).tk := ha2
   have h12 := p12N (runT L Tm (i + 1)).1 y hy ((runT L Tm i).1.lk.getD k Lk0).nm (by have := (r1.2.2.2.2.1 k hk).1.1.1; omega) hY ha1
   refine B9 [0, 0, 2, 0, 14, 30, 62, 127, 255, 511, 511, 0, 3071, 8191] rfl (by decide +kernel) ?_
   (apply L8 (vs := [.int _ _, .int _ _, _, _]) j2; exact Q0; exact C8; rfl; exact kb; exact j4)
   refine C9 (off := 2) (s := 1) (r := false) j3 kz j3 ?_
   (apply D5 (v := .sl _ _ _) j2; exact Q0; exact C8; exact j5)
   refine I2 j5 ?_
   (apply O4 j4; exact Z6; exact Q37; exact j4)
   refine dfai (off := 0) (s := 1) (r := false) j3 kz j4 (V7 (v := .str _) j8 ?_)
   apply O5 [] h12 rfl j2
   ·exact (SnapL.cons _ _ _ _ (SnapC.agg (.cons _ _ _ _ (.int _ _) (.cons _ _ _ _ (.int _ _) (.cons _ _ _ _ (N5 _ (fun h => by cases h)) (.cons _ _ _ _ (N5 _ (fun h => by cases h)) .nil))))) (SnapL.cons _ _ _ _ (.one _ _ (.str _)) SnapL.nil))
   ·rfl
   ·rfl
   ·rfl
   refine dmT j5 (dex j6 (dex j6 (dal j6 ?_)))
   (apply dst (u := .agg [.str _, .int _ _, .int _ _, .int _ _, _]) rfl rfl rfl; exact Q0; exact C8; rfl; rfl; rfl; (first | rfl | exact N3); exact kb; rfl; rfl; rfl)
   refine daI j5 (B3 14 [0, 3, 3, 0, 0, 0, 0, 0, 0, 0, 0, 1, 0, 1] [(0, 11), (2, 11)] j2 (by decide +kernel) ?_ ?_)
   ·(simp [ClearL, ids]; try omega)
   refine A1 (A2 (B9 [0, 1, 3, 7, 15, 7, 39, 7, 231, 487, 999, 2047, 4095] rfl (by decide +kernel) ?_))
   refine I2 j5 ?_
   refine dne j6 (fun h => absurd h ((fun hh => hh rfl))) ?_
   intro h22_1
   refine F9 j5 (C9 (off := 1) (s := 1) (r := false) j3 kz j3 ?_)
   (apply D5 (v := .int _ _) j2; exact Q0; exact C8; exact j5)
   refine C9 (off := 2) (s := 1) (r := false) j3 kz j3 ?_
   (apply D5 (v := .sl _ _ _) j2; exact Q0; exact C8; exact j5)
   refine I2 j5 ?_
   (apply O4 j4; exact Z6; exact Q37; exact j4)
   refine dfai (off := 1) (s := 1) (r := false) j3 kz j4 (V7 (v := .int _ _) j8 ?_)
   refine dlt j6 (fun h => absurd h (by omega)) ?_
   intro h22_11
   refine F4 (e := false) j6 (B3 13 [0, 0, 0, 0, 0, 0, 1, 0, 1, 0, 0, 0, 0] [] j2 (by decide +kernel) trivial ?_)
   refine A1 (wF rfl (B2 (C0 (A1 (A0 (B5 j5 (D0 j3 ?_ ?_ j3 ?_)))))))
   ·exact Z6
   ·exact Z6
   refine D1 j5 (A3 (E3 ?_))
   exact I4 (ih ⟨k + 1, mm + 1⟩ ⟨by dsimp only; omega, by dsimp only; omega⟩ (by dsimp only; omega)) (by (repeat first | exact LE.nil _ | refine LE.unk _ _ ?_ | refine LE.eq _ _ _ rfl ?_)) (by (repeat first | exact E9 | (refine F1 ?_ ?_; exact U1))) (Nat.le_refl _)
  ·refine A3 (A1 (wF rfl (E5 (E6 (D2 (C5 (A1 (A0 ?_))))))))
   (apply F7 (vs := [.int _ _, .int _ _, _, _]) j2; exact Q0; exact C8; rfl; exact kb; rfl; exact j3)
   (apply D6 (u := .agg [.int _ _, .int _ _, _, _]) j3; exact Q0; exact C8; rfl; rfl; rfl; (first | rfl | exact N3); exact kb; rfl; exact j2)
   refine A3 (C0 (A1 (A0 (B5 j5 (D0 j3 ?_ ?_ j3 ?_)))))
   ·exact Z6
   ·exact Z6
   refine D1 j5 (A3 (E3 ?_))
   exact I4 (ih0 ⟨i + 1, y, mm⟩ ⟨by dsimp only; omega, hy, by dsimp only; omega⟩ (by dsimp only; omega)) (by (repeat first | exact LE.nil _ | refine LE.unk _ _ ?_ | refine LE.eq _ _ _ rfl ?_)) (by (repeat first | exact E9 | (refine F1 ?_ ?_; exact U1))) (Nat.le_refl _)
 ·refine A3 (A1 (wF rfl (E5 (E6 (D2 (C5 (A1 (A2 ?_))))))))
  obtain rfl : i = L.length := by omega
  have h31e := Pure.ofN2 hx hy0 (s31 (runT L Tm L.length).1 false false false hE)
  refine A0 ?_
  (apply F7 (vs := [.int _ _, .int _ _, _, _]) j2; exact Q0; exact C8; rfl; exact kb; rfl; exact j3)
  (apply F7 (vs := [.int _ _, .int _ _, _, _]) j2; exact Q0; exact C8; rfl; exact kb; rfl; exact j3)
  apply I6 [] h31e rfl j2
  ·exact (SnapL.cons _ _ _ _ (SnapC.agg (.cons _ _ _ _ (.int _ _) (.cons _ _ _ _ (.int _ _) (.cons _ _ _ _ (N5 _ (fun h => by cases h)) (.cons _ _ _ _ (N5 _ (fun h => by cases h)) .nil))))) (SnapL.cons _ _ _ _ (SnapC.agg (.cons _ _ _ _ (.int _ _) (.cons _ _ _ _ (.int _ _) (.cons _ _ _ _ (N5 _ (fun h => by cases h)) (.cons _ _ _ _ (N5 _ (fun h => by cases h)) .nil))))) SnapL.nil))
  ·rfl
  ·rfl
  ·rfl
  refine C3 j5 (A3 (A1 (B1 ?_)))
  exact fin rfl rfl
open Go.V
set_option linter.unusedVariables false
set_option linter.unusedSimpArgs false
set_option maxRecDepth 20000
set_option maxHeartbeats 4000000
theorem locks_any (n1 : Bool) (B : List Int) (hB : bytes B) : Pure En 7 [.one (.sl n1 (B.map bT))] [.one (.bool true)] := by
 by_cases hb : B.length ≤ 1048576
 ·obtain ⟨⟨L, Tm⟩, hR, h21, h22⟩ := s21 n1 B hB (by omega)
  dsimp only at hR h21 h22
  obtain ⟨y0, hy0, h33⟩ := p33 L Tm true true hR
  exact locks_walk n1 B hb L Tm hR y0 hy0 h21 h22 h33
 ·have hbl : (B.map bT).length = B.length := List.length_map ..
  refine Pure.of_wp Try.func7 rfl kb ?_
  refine A2 (A0 (C3 j5 (A3 (A1 (A2 (A2 (A0 (J7 j5 (G7 rfl rfl rfl j3 ?_)))))))))
  refine V9 j6 ?_ ?_ <;> intro h1_2
  ·refine A3 (A1 (wT rfl (A2 (A0 (C3 j5 (A3 (A1 (B1 (B0 ?_)))))))))
   exact fin rfl rfl
  ·refine A3 (A1 (wF rfl (B2 (A1 (A2 ?_)))))
   exact absurd (by omega) hb
end Go.Proofs.Ytknnniaoboaghaa
