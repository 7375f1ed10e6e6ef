import Derived.Test.YtknnniaoboaghaaF12
namespace Go.Proofs.Ytknnniaoboaghaa
open Go.V
set_option linter.unusedVariables false
set_option linter.unusedSimpArgs false
set_option maxRecDepth 20000
set_option maxHeartbeats 4000000
theorem o98 (fr nn : Bool) (B : List Int) (hB : bytes B) (hL : B.length ≤ 1048577) (k sd : Int) (hk : 0 ≤ k ∧ k ≤ 1000000) (hs : sdOK sd) (m : Int) (hm : 2 ≤ m ∧ m ≤ 100) {id : Nat} {h : Heap} {n : Nat} (hid : id < n) (hh : h id = some (srcB fr nn B k sd)) :
  ∃ r : Int, (1 ≤ r ∧ r ≤ m) ∧ V.Open En 98 [.ptr id 0 0, .int .i64 m] h n (.int .i64 r) [] n := by
 have hl : (B.map bT).length = B.length := List.length_map ..
 have q1 : 0 ≤ ((B.map bT).length : Int).tdiv 12 ∧ ((B.map bT).length : Int).tdiv 12 ≤ 1048577 := by
  have h1 := Int.tdiv_nonneg (show (0 : Int) ≤ ((B.map bT).length : Int) by omega) (show (0 : Int) ≤ 12 by omega)
  have h2 := Int.tdiv_le_self (12 : Int) (show (0 : Int) ≤ ((B.map bT).length : Int) by omega)
  omega
 have q2 : IntKind.i64.wrap (((B.map bT).length : Int).tdiv 12) = ((B.map bT).length : Int).tdiv 12 := wrap_i64 (by omega) (by omega)
 unfold srcB at hh
 refine V.Open.of_wpX (v := fun r : Int => .int .i64 r) (wr := fun _ => []) (m := fun _ => n) Try.func98 rfl kb ?_
 refine A2 (A0 (D0 j5 (A3 (A1 (A2 (A0 (D9 j5 (F6 (v := .ptr _ _ _) j6 (C1 (off := 0) (s := 1) (r := false) j3 kz j3 ?_)))))))))
 (apply C5 (v := .sl _ _ _) j2; exact Q0; rfl; exact j5)
 refine H0 rfl rfl rfl j3 (rquo j3 ?_ j3 ?_)
 ·(first | omega | assumption | (rw [q2]; omega))
 refine C3 j3 ?_ ?_ j3 ?_
 ·(first | omega | assumption | (rw [q2]; omega))
 ·(first | omega | assumption | (rw [q2]; omega))
 refine B6 j5 (rmin rfl j5 (D0 j5 (A3 (A1 (A9 ?_)))))
 exact ⟨_, by rw [q2]; omega, E7 rfl rfl (fun _ _ _ e => e) (Nat.le_refl _)⟩
theorem o99 (fr nn : Bool) (B : List Int) (hB : bytes B) (hL : B.length ≤ 1048577) (k sd : Int) (hk : 0 ≤ k ∧ k ≤ 1000000) (hs : sdOK sd) (m : Int) (hm : 2 ≤ m ∧ m ≤ 100) {id : Nat} {h : Heap} {n : Nat} (hid : id < n) (hh : h id = some (srcB fr nn B k sd)) :
  ∃ r : Bool × Int, sdOK r.2 ∧ V.Open En 99 [.ptr id 0 0, .int .i64 m] h n (.bool r.1) [(id, some (srcB fr nn B (k + 1) r.2))] n := by
 refine V.Open.of_wpX (v := fun r : Bool × Int => .bool r.1) (wr := fun r : Bool × Int => [(id, some (srcB fr nn B (k + 1) r.2))]) (m := fun _ => n) Try.func99 rfl kb ?_
 refine A2 (A0 (C6 j5 (A3 (A1 (A2 (A0 (D9 j5 (B6 j5 (K7 (o29 fr nn B hB hL k sd m hk hs (by omega) ?_ ?_) rfl j5 ?_)))))))))
 ·exact AK
 ·exact AK
 rintro ⟨v, s2⟩ h1_2
 try dsimp only at h1_2
 refine B6 j5 (S5 j3 ?_ ?_ j3 ?_)
 ·exact Q4
 ·exact Q4
 refine H5 j6 ?_ ?_ <;> intro h1_5
 ·refine C6 j5 (A3 (A1 (A9 ?_)))
  first | exact ⟨(true, s2), h1_2.2, E7 rfl rfl (fun _ _ _ e => e) (Nat.le_refl _)⟩ | exact ⟨(false, s2), h1_2.2, E7 rfl rfl (fun _ _ _ e => e) (Nat.le_refl _)⟩
 ·refine C6 j5 (A3 (A1 (A9 ?_)))
  first | exact ⟨(true, s2), h1_2.2, E7 rfl rfl (fun _ _ _ e => e) (Nat.le_refl _)⟩ | exact ⟨(false, s2), h1_2.2, E7 rfl rfl (fun _ _ _ e => e) (Nat.le_refl _)⟩
open Go.V
set_option linter.unusedVariables false
set_option linter.unusedSimpArgs false
set_option maxRecDepth 20000
set_option maxHeartbeats 4000000
def iV (x : Int) : List V := [.int .i64 x]
theorem goodOK {r : Rq} (h : r.good) (st : Int) (hs : 1 ≤ st ∧ st ≤ 65535) : (Rq.mk r.cl st r.kd r.le r.nm).OK := by
 obtain ⟨h1, h2, h3, h4, h5⟩ := h
 refine ⟨⟨h1.1, by show r.cl ≤ 255; omega⟩, ⟨hs.1, hs.2⟩, h3, ?_, ?_, ?_⟩
 ·show 0 ≤ r.le ∧ r.le ≤ 1000; omega
 ·show opName r.nm
  have w : ∀ s ∈ [nmA, nmB, nmL], opName s := by
   intro s hs
   simp only [List.mem_cons, List.not_mem_nil, or_false] at hs
   rcases hs with rfl | rfl | rfl
   ·exact ⟨by decide, by decide, by decide, .inl (by decide), fun j hj => .inl (by have : j = 0 := Nat.lt_one_iff.1 hj; subst this; exact .inl (by decide))⟩
   ·exact ⟨by decide, by decide, by decide, .inl (by decide), fun j hj => .inl (by have : j = 0 := Nat.lt_one_iff.1 hj; subst this; exact .inl (by decide))⟩
   ·exact ⟨by decide, by decide, by decide, .inl (by decide), fun j hj => .inl (by
     match j, hj with
     | 0, _ => exact .inl (by decide)
     | 1, _ => exact .inl (by decide)
     | 2, _ => exact .inl (by decide)
     | 3, _ => exact .inl (by decide)
     | j + 4, h => exact absurd h (by show ¬ j + 4 < 4; omega))⟩
  exact w _ h4
 ·show r.le > 0 ↔ (r.kd = 1 ∨ r.kd = 3); omega
structure RqS where
 i : Nat
 k : Int
 sd : Int
 L : List Rq
 Tm : List Int
 S : List Int
 nw : Int
 bq : Nat
 bt : Nat
 m : Nat
 g : Heap
 cn : Int
structure RqI (fr nn : Bool) (B : List Int) (id sb n : Nat) (c : Int) (h0 : Heap) (a : RqS) : Prop where
 ic : (a.i : Int) ≤ c
 cn : a.cn = c - a.i
 kk : 0 ≤ a.k ∧ a.k ≤ 1001 + 20 * a.i
 sd : sdOK a.sd
 ok : ∀ r ∈ a.L, r.OK ∧ r.st ≤ 1000
 lL : a.L.length = a.i
 lT : a.Tm.length = a.i
 tm : ∀ x ∈ a.Tm, 0 ≤ x ∧ x ≤ 1000
 nw : 0 ≤ a.nw ∧ a.nw ≤ 8 * a.i
 lS : a.S.length = 3
 st : ∀ x ∈ a.S, 0 ≤ x ∧ x ≤ a.i
 g0 : a.g id = some (srcB fr nn B a.k a.sd)
 gs : a.g sb = some ⟨a.S.map iV, 1, 3⟩
 gq : a.g a.bq = some ⟨a.L.map Rq.V, 5, 64⟩
 gt : a.g a.bt = some ⟨a.Tm.map iV, 1, 3⟩
 nq : n ≤ a.bq ∧ a.bq < a.m ∧ a.bq ≠ sb
 nt : n ≤ a.bt ∧ a.bt < a.m ∧ a.bt ≠ sb
 ne : a.bq ≠ a.bt
 le : sb < a.m
 ch : Ch h0 a.g
 fr : ∀ x, x < n → x ≠ id → a.g x = h0 x
theorem RqI.step {fr nn : Bool} {B : List Int} {id sb n : Nat} {c : Int} {h0 : Heap} {i : Nat} {k1 sd1 : Int} {L : List Rq} {Tm S : List Int} {nw : Int} {bq bt m : Nat} {g : Heap} {cn : Int} (hI : RqI fr nn B id sb n c h0 ⟨i, k1, sd1, L, Tm, S, nw, bq, bt, m, g, cn⟩)
  {k2 sd2 : Int} {r : Rq} {x : Int} {S2 : List Int} {nw2 : Int} {bq2 bt2 m2 : Nat} {G : Heap} (hi : (i : Int) < c) (hk : k1 ≤ k2 ∧ k2 ≤ k1 + 20) (hs : sdOK sd2) (hr : r.OK ∧ r.st ≤ 1000) (hx : 0 ≤ x ∧ x ≤ 1000) (hn : nw ≤ nw2 ∧ nw2 ≤ nw + 8) (hS : S2.length = 3) (hst : ∀ y ∈ S2, 0 ≤ y ∧ y ≤ i + 1)
  (g0 : G id = some (srcB fr nn B k2 sd2)) (gs : G sb = some ⟨S2.map iV, 1, 3⟩) (gq : G bq2 = some ⟨L.map Rq.V ++ [r.V], 5, 64⟩) (gt : G bt2 = some ⟨Tm.map iV ++ [iV x], 1, 3⟩) (nq : m ≤ bq2 ∧ bq2 < bt2 ∧ bt2 < m2) (hch : Ch g G) (hsb : n ≤ sb) (hfr : ∀ x, x < n → x ≠ id → G x = g x) :
  RqI fr nn B id sb n c h0 ⟨i + 1, k2, sd2, L ++ [r], Tm ++ [x], S2, nw2, bq2, bt2, m2, G, cn - 1⟩ := by
 have q0 := hI.ic
 have qn := hI.cn
 have q1 := hI.kk
 have q2 := hI.lL
 have q3 := hI.lT
 have q4 := hI.nw
 have q6 := hI.nq
 have q9 := hI.le
 dsimp only at q0 qn q1 q2 q3 q4 q6 q9
 exact ⟨by dsimp only; omega, by dsimp only; omega, by dsimp only; omega, hs, fun y hy => (List.mem_append.1 hy).elim (fun q => hI.ok y q) (fun q => by rw [List.mem_singleton.1 q]; exact hr), by show (L ++ [r]).length = i + 1; rw [List.length_append, q2]; rfl, by show (Tm ++ [x]).length = i + 1; rw [List.length_append, q3]; rfl,
  fun y hy => (List.mem_append.1 hy).elim (fun q => hI.tm y q) (fun q => by rw [List.mem_singleton.1 q]; exact hx), by dsimp only; omega, hS, fun y hy => by have := hst y hy; dsimp only; omega, g0, gs, by dsimp only; rw [List.map_append]; exact gq, by dsimp only; rw [List.map_append]; exact gt, by dsimp only; omega, by dsimp only; omega, by dsimp only; omega, by dsimp only; omega, hI.ch.trans hch, fun y h1 h2 => (hfr y h1 h2).trans (hI.fr y h1 h2)⟩
theorem o64 (fr nn : Bool) (B : List Int) (hB : bytes B) (hL : B.length ≤ 1048577) (k sd : Int) (hk : 0 ≤ k ∧ k ≤ 1000) (hs : sdOK sd) {id : Nat} {h : Heap} {n : Nat} (hid : id < n) (hh : h id = some (srcB fr nn B k sd)) : OpenM En 64 [.ptr id 0 0] h n (fun v g m => ∃ (L : List Rq) (Tm : List Int) (bq bt : Nat), v = .tup [.view bq 0 L.length, .view bt 0 Tm.length] ∧ (∀ r ∈ L, r.OK ∧ r.st ≤ 1000) ∧ (∀ x ∈ Tm, 0 ≤ x ∧ x ≤ 1000) ∧ (L.length ≤ 30 ∧ Tm.length = L.length) ∧ g bq = some ⟨L.map Rq.V, 5, 64⟩ ∧ g bt = some ⟨Tm.map iV, 1, 3⟩ ∧ (bq < m ∧ bt < m) ∧ ∀ x, x < n → x ≠ id → g x = h x) := by
 refine OpenM.of_wp Try.func64 rfl kb ?_
 refine A2 (A0 (AA j5 (AA j5 (A3 (A1 (A2 (A0 (S8 (es := []) j4 kz kb rfl rfl j3 (S6 j5 (A3 (A1 (A2 ?_))))))))))))
 refine A0 (S8 (es := []) j4 kz kb rfl rfl j3 (S6 j5 (A3 (A1 (A2 (A0 (S8 (es := [[.int _ _], [.int _ _], [.int _ _]]) j4 kz kb rfl rfl j3 (S6 j5 (A3 (A1 (A2 (A0 ?_))))))))))))
 refine D0 j5 (A3 (A1 (A2 (A2 (A0 (D9 j5 (D9 j5 (K7 (o98 fr nn B hB hL k sd (by omega) hs 24 (by omega) ?_ ?_) rfl j5 ?_))))))))
 ·exact Q40
 ·exact Q40
 rintro z h5_2
 try dsimp only at h5_2
 refine C3 j3 ?_ ?_ j3 ?_
 ·exact Y0
 ·exact Y0
 refine K7 (o29 fr nn B hB hL k sd (z + 4) (by omega) hs (by omega) ?_ ?_) rfl j5 ?_
 ·exact Q40
 ·exact Q40
 rintro ⟨c, s1⟩ h5_4
 try dsimp only at h5_4
 refine D0 j5 (A3 (A1 (B3 (F0 ?_))))
 refine wlG fun g0 hg0 => ?_
 refine E9 (fun (a : RqS) => [.ptr id 0 0, .unk, .unk, .unk, .view a.bq 0 a.i, .view a.bt 0 a.i, .view (n + 1 + 1) 0 3, .int .i64 a.nw, .int .i64 a.cn]) (fun (a : RqS) => a.g) (fun (a : RqS) => a.m) (fun (a : RqS) => RqI fr nn B id (n + 1 + 1) n c h a) (fun (a : RqS) => c.toNat - a.i) ⟨0, k + 1, s1, [], [], [0, 0, 0], 0, n, n + 1, n + 1 + 1 + 1, g0, c⟩ ?_ ?_ ?_ ?_ ?_
 ·refine ⟨by show ((0 : Nat) : Int) ≤ c; omega, by show c = c - ((0 : Nat) : Int); omega, by dsimp only; omega, h5_4.2, fun r hr => absurd hr List.not_mem_nil, rfl, rfl, fun x hx => absurd hx List.not_mem_nil, ⟨Int.le_refl _, by dsimp only; omega⟩, rfl, fun x hx => ?_, ?_, ?_, ?_, ?_, by dsimp only; omega, by dsimp only; omega, by dsimp only; omega, by dsimp only; omega, ?_, fun y h1 h2 => ?_⟩
  ·simp only [List.mem_cons, List.not_mem_nil, or_false, or_self] at hx
   rw [hx]; exact ⟨Int.le_refl _, by dsimp only; omega⟩
  ·dsimp only; rw [hg0]; exact Q0
  ·dsimp only; rw [hg0]; exact Q0
  ·dsimp only; rw [hg0]; exact Q0
  ·dsimp only; rw [hg0]; exact Q0
  ·dsimp only; rw [hg0]; (repeat first | exact Ch.refl _ | refine Ch.upd ?_ | refine Ch.app ?_ | assumption)
  ·dsimp only; rw [hg0]; (simp (disch := (first | omega | assumption)) only [↓appC, ↓updN, ↓updS, ↓app0])
 ·(repeat first | exact LE.nil _ | refine LE.unk _ _ ?_ | refine LE.eq _ _ _ rfl ?_)
 ·exact LessH.refl _
 ·exact Nat.le_refl _
 intro ⟨i, k1, sd1, L, Tm, S, nw, bq, bt, m, g, cn⟩ hI ih
 have q0 := hI.ic
 have qn := hI.cn
 have q1 := hI.kk
 have q2 := hI.lL
 have q3 := hI.lT
 have q4 := hI.nw
 have q5 := hI.lS
 have q6 := hI.nq
 have q7 := hI.nt
 have q8 := hI.ne
 have q9 := hI.le
 have g1 := hI.g0
 have g2 := hI.gs
 have g3 := hI.gq
 have g4 := hI.gt
 dsimp only at q0 qn q1 q2 q3 q4 q5 q6 q7 q8 q9 g1 g2 g3 g4 ⊢
 refine E8 (A2 (A2 (A0 (B6 j5 ?_))))
 refine V4 j6 ?_ ?_ <;> intro h6_1
 ·refine A3 (A1 (wT rfl (B0 (A1 (A2 (B3 (A2 (A0 (D9 j5 (K7 (o14 fr nn B hB hL k1 sd1 (by omega) hI.sd (by omega) hI.g0) rfl j5 ?_))))))))))
  rintro ⟨rq, k2, s2⟩ h8_1
  try dsimp only at h8_1
  have hcl := h8_1.1.1
  have hS3 : (S.map iV)[0 + (rq.cl).toNat]? = some [.int .i64 (S.getD (0 + (rq.cl).toNat) 0)] := D8 iV 0 (by omega)
  have hSx : 0 ≤ S.getD (0 + (rq.cl).toNat) 0 ∧ S.getD (0 + (rq.cl).toNat) 0 ≤ i := by
   rw [List.getD_eq_getElem?_getD, List.getElem?_eq_getElem (by omega)]; exact hI.st _ (List.getElem_mem _)
  refine H3 j6 ?_
  (apply D4 (u := .agg [.int _ _, .int _ _, .int _ _, .int _ _, .str _]) j3; exact Q0; exact Q28; rfl; rfl; rfl; rfl; exact kb; rfl; exact j2)
  refine A3 (A1 (A2 (A2 (A0 (D9 j5 (K7 (o99 fr nn B hB hL k2 s2 (by omega) h8_1.2.2 6 (by omega) ?_ ?_) rfl j5 ?_))))))
  ·exact Q40
  ·exact Q40
  rintro ⟨b3, s3⟩ h9_1
  try dsimp only at h9_1
  cases b3
  ·refine D5 (c := false) j5 (A3 (A1 (wT rfl (A0 (K1 j5 (C1 (off := 0) (s := 1) (r := false) j3 kz j3 ?_))))))
   (apply C5 (v := .int _ _) j2; exact Q0; exact Q28; exact j5)
   (apply T8 j4; exact Q0; rfl; exact Y0; exact Y0; exact j3)
   (apply C5 (v := .int _ _) j2; exact Q0; exact Q28; exact j5)
   refine C3 j3 ?_ ?_ j3 ?_
   ·exact Y0
   ·exact Y0
   (apply T8 j4; exact Q0; rfl; exact Y0; exact Y0; exact j3)
   (apply D4 (u := .int _ _) j3; exact Q0; exact Q28; rfl; rfl; rfl; rfl; exact kb; rfl; exact j2)
   refine A3 (A1 (A2 (A0 (K1 j5 (C1 (off := 0) (s := 1) (r := false) j3 kz j3 ?_)))))
   (apply C5 (v := .int _ _) j2; exact Q0; exact Q28; exact j5)
   (apply T8 j4; exact Q0; rfl; exact Y0; exact Y0; exact j3)
   (apply C5 (v := .int _ _) j2; exact Q0; exact Q28; exact j5)
   refine rmax rfl j5 (C1 (off := 1) (s := 1) (r := false) j3 kz j3 ?_)
   (apply D4 (u := .int _ _) j3; exact Q0; exact Q28; rfl; rfl; rfl; rfl; exact kb; rfl; exact j2)
   refine A3 (A1 (A2 (A0 (B6 j5 (D9 j5 (K7 (o29 fr nn B hB hL (k2 + 1) s3 9 (by omega) h9_1 (by omega) ?_ ?_) rfl j5 ?_))))))
   ·exact Q40
   ·exact Q40
   rintro ⟨v4, s4⟩ h12_2
   try dsimp only at h12_2
   refine C3 j3 ?_ ?_ j3 ?_
   ·exact Y0
   ·exact Y0
   refine D0 j5 (A3 (A1 (A2 (A0 (K1 j5 ?_)))))
   (apply F9 (vs := [.int _ _, .int _ _, .int _ _, .int _ _, .str _]) j2; exact Q0; exact Q28; rfl; exact kb; rfl; exact j3)
   refine S8 (es := [[.int _ _, .int _ _, .int _ _, .int _ _, .str _]]) j4 kz kb rfl rfl j3 ?_
   (apply rap (s' := 48) (es := [[.int _ _, .int _ _, .int _ _, .int _ _, .str _]]) rfl rfl; exact Q0; exact j2; (first | rfl | (rw [List.length_map]; omega)); exact j2; exact kz; exact BM; exact AC; exact Q24; exact Q24; exact j3)
   refine S6 j5 (A3 (A1 (A0 (K1 j5 (B6 j5 (D9 j5 (K7 (o29 fr nn B hB hL (k2 + 1 + 1) s4 9 (by omega) h12_2.2 (by omega) ?_ ?_) rfl j5 ?_)))))))
   ·exact Q40
   ·exact Q40
   rintro ⟨v5, s5⟩ h14_3
   try dsimp only at h14_3
   refine D9 j5 (K7 (o29 fr nn B hB hL (k2 + 1 + 1 + 1) s5 2 (by omega) h14_3.2 (by omega) ?_ ?_) rfl j5 ?_)
   ·exact Q40
   ·exact Q40
   rintro ⟨v6, s6⟩ h14_5
   try dsimp only at h14_5
   have hm1 : 0 ≤ v5 * v6 ∧ v5 * v6 ≤ 8 := by
    have : v6 = 0 ∨ v6 = 1 := by omega
    rcases this with e | e <;> rw [e] <;> omega
   refine rmulF j3 ?_ ?_ j3 ?_
   ·exact Y0
   ·exact Y0
   refine S5 j3 ?_ ?_ j3 ?_
   ·exact Y0
   ·exact Y0
   refine rmax rfl j5 (S8 (es := [[.int _ _]]) j4 kz kb rfl rfl j3 ?_)
   (apply rap (s' := 8) (es := [[.int _ _]]) rfl rfl; exact Q0; exact j2; (first | rfl | (rw [List.length_map]; omega)); exact j2; exact kz; exact BM; exact AC; exact Q24; exact Q24; exact j3)
   refine S6 j5 (A3 (B7 (A1 ?_)))
   refine Y1 fun G hG => ?_
   refine A0 (B6 j5 (S5 j3 ?_ ?_ j3 ?_))
   ·exact Y0
   ·exact Y0
   refine D0 j5 (A3 (D1 ?_))
   first
   | (refine H4 (ih ⟨i + 1, k2 + 1 + 1 + 1 + 1, s6, L ++ [⟨rq.cl, max 1 (S.getD (0 + (rq.cl).toNat) 0 + 1), rq.kd, rq.le, rq.nm⟩], Tm ++ [max 0 (nw + v4 - v5 * v6)], S.set (0 + (rq.cl).toNat) (S.getD (0 + (rq.cl).toNat) 0 + 1), nw + v4, m + 3 + 1 + 1, m + 3 + 1 + 1 + 1 + 1, m + 3 + 1 + 1 + 1 + 1 + 1, G, cn - 1⟩ (hI.step (by omega) (by omega) h14_5.2 ⟨goodOK h8_1.1 _ (by omega), by dsimp only; omega⟩ (by omega) (by omega) (by rw [List.length_set]; exact hI.lS) (fun y hy => ?_) ?_ ?_ ?_ ?_ (by omega) ?_ (by omega) (fun y h1 h2 => ?_)) (by dsimp only; omega)) (by (repeat first | exact LE.nil _ | refine LE.unk _ _ ?_ | refine LE.eq _ _ _ rfl ?_)) (LessH.refl _) (Nat.le_refl _)
      · rcases List.mem_or_eq_of_mem_set hy with q | q
        · have := hI.st y q; dsimp only at this; omega
        · omega
      · rw [hG]; exact Q0
      · rw [hG, List.map_set]; exact Q0
      · rw [hG]; exact Q0
      · rw [hG]; exact Q0
      · rw [hG]; (repeat first | exact Ch.refl _ | refine Ch.upd ?_ | refine Ch.app ?_ | assumption)
      · rw [hG]; (simp (disch := (first | omega | assumption)) only [↓appC, ↓updN, ↓updS, ↓app0]))
   | (refine H4 (ih ⟨i + 1, k2 + 1 + 1 + 1 + 1, s6, L ++ [⟨rq.cl, max 1 (S.getD (0 + (rq.cl).toNat) 0), rq.kd, rq.le, rq.nm⟩], Tm ++ [max 0 (nw + v4 - v5 * v6)], S, nw + v4, m + 3 + 1 + 1, m + 3 + 1 + 1 + 1 + 1, m + 3 + 1 + 1 + 1 + 1 + 1, G, cn - 1⟩ (hI.step (by omega) (by omega) h14_5.2 ⟨goodOK h8_1.1 _ (by omega), by dsimp only; omega⟩ (by omega) (by omega) hI.lS (fun y hy => ?_) ?_ ?_ ?_ ?_ (by omega) ?_ (by omega) (fun y h1 h2 => ?_)) (by dsimp only; omega)) (by (repeat first | exact LE.nil _ | refine LE.unk _ _ ?_ | refine LE.eq _ _ _ rfl ?_)) (LessH.refl _) (Nat.le_refl _)
      · have := hI.st y hy; dsimp only at this; omega
      · rw [hG]; exact Q0
      · rw [hG]; exact Q0
      · rw [hG]; exact Q0
      · rw [hG]; exact Q0
      · rw [hG]; (repeat first | exact Ch.refl _ | refine Ch.upd ?_ | refine Ch.app ?_ | assumption)
      · rw [hG]; (simp (disch := (first | omega | assumption)) only [↓appC, ↓updN, ↓updS, ↓app0]))
  ·refine D5 (c := true) j5 (A3 (A1 (wF rfl (B0 (A1 (A2 (A0 (K1 j5 (C1 (off := 0) (s := 1) (r := false) j3 kz j3 ?_)))))))))
   (apply C5 (v := .int _ _) j2; exact Q0; exact Q28; exact j5)
   (apply T8 j4; exact Q0; rfl; exact Y0; exact Y0; exact j3)
   (apply C5 (v := .int _ _) j2; exact Q0; exact Q28; exact j5)
   refine rmax rfl j5 (C1 (off := 1) (s := 1) (r := false) j3 kz j3 ?_)
   (apply D4 (u := .int _ _) j3; exact Q0; exact Q28; rfl; rfl; rfl; rfl; exact kb; rfl; exact j2)
   refine A3 (A1 (A2 (A0 (B6 j5 (D9 j5 (K7 (o29 fr nn B hB hL (k2 + 1) s3 9 (by omega) h9_1 (by omega) ?_ ?_) rfl j5 ?_))))))
   ·exact Q40
   ·exact Q40
   rintro ⟨v4, s4⟩ h12_2
   try dsimp only at h12_2
   refine C3 j3 ?_ ?_ j3 ?_
   ·exact Y0
   ·exact Y0
   refine D0 j5 (A3 (A1 (A2 (A0 (K1 j5 ?_)))))
   (apply F9 (vs := [.int _ _, .int _ _, .int _ _, .int _ _, .str _]) j2; exact Q0; exact Q28; rfl; exact kb; rfl; exact j3)
   refine S8 (es := [[.int _ _, .int _ _, .int _ _, .int _ _, .str _]]) j4 kz kb rfl rfl j3 ?_
   (apply rap (s' := 48) (es := [[.int _ _, .int _ _, .int _ _, .int _ _, .str _]]) rfl rfl; exact Q0; exact j2; (first | rfl | (rw [List.length_map]; omega)); exact j2; exact kz; exact BM; exact AC; exact Q24; exact Q24; exact j3)
   refine S6 j5 (A3 (A1 (A0 (K1 j5 (B6 j5 (D9 j5 (K7 (o29 fr nn B hB hL (k2 + 1 + 1) s4 9 (by omega) h12_2.2 (by omega) ?_ ?_) rfl j5 ?_)))))))
   ·exact Q40
   ·exact Q40
   rintro ⟨v5, s5⟩ h14_3
   try dsimp only at h14_3
   refine D9 j5 (K7 (o29 fr nn B hB hL (k2 + 1 + 1 + 1) s5 2 (by omega) h14_3.2 (by omega) ?_ ?_) rfl j5 ?_)
   ·exact Q40
   ·exact Q40
   rintro ⟨v6, s6⟩ h14_5
   try dsimp only at h14_5
   have hm1 : 0 ≤ v5 * v6 ∧ v5 * v6 ≤ 8 := by
    have : v6 = 0 ∨ v6 = 1 := by omega
    rcases this with e | e <;> rw [e] <;> omega
   refine rmulF j3 ?_ ?_ j3 ?_
   ·exact Y0
   ·exact Y0
   refine S5 j3 ?_ ?_ j3 ?_
   ·exact Y0
   ·exact Y0
   refine rmax rfl j5 (S8 (es := [[.int _ _]]) j4 kz kb rfl rfl j3 ?_)
   (apply rap (s' := 8) (es := [[.int _ _]]) rfl rfl; exact Q0; exact j2; (first | rfl | (rw [List.length_map]; omega)); exact j2; exact kz; exact BM; exact AC; exact Q24; exact Q24; exact j3)
   refine S6 j5 (A3 (B7 (A1 ?_)))
   refine Y1 fun G hG => ?_
   refine A0 (B6 j5 (S5 j3 ?_ ?_ j3 ?_))
   ·exact Y0
   ·exact Y0
   refine D0 j5 (A3 (D1 ?_))
   first
   | (refine H4 (ih ⟨i + 1, k2 + 1 + 1 + 1 + 1, s6, L ++ [⟨rq.cl, max 1 (S.getD (0 + (rq.cl).toNat) 0 + 1), rq.kd, rq.le, rq.nm⟩], Tm ++ [max 0 (nw + v4 - v5 * v6)], S.set (0 + (rq.cl).toNat) (S.getD (0 + (rq.cl).toNat) 0 + 1), nw + v4, m + 3 + 1 + 1, m + 3 + 1 + 1 + 1 + 1, m + 3 + 1 + 1 + 1 + 1 + 1, G, cn - 1⟩ (hI.step (by omega) (by omega) h14_5.2 ⟨goodOK h8_1.1 _ (by omega), by dsimp only; omega⟩ (by omega) (by omega) (by rw [List.length_set]; exact hI.lS) (fun y hy => ?_) ?_ ?_ ?_ ?_ (by omega) ?_ (by omega) (fun y h1 h2 => ?_)) (by dsimp only; omega)) (by (repeat first | exact LE.nil _ | refine LE.unk _ _ ?_ | refine LE.eq _ _ _ rfl ?_)) (LessH.refl _) (Nat.le_refl _)
      · rcases List.mem_or_eq_of_mem_set hy with q | q
        · have := hI.st y q; dsimp only at this; omega
        · omega
      · rw [hG]; exact Q0
      · rw [hG, List.map_set]; exact Q0
      · rw [hG]; exact Q0
      · rw [hG]; exact Q0
      · rw [hG]; (repeat first | exact Ch.refl _ | refine Ch.upd ?_ | refine Ch.app ?_ | assumption)
      · rw [hG]; (simp (disch := (first | omega | assumption)) only [↓appC, ↓updN, ↓updS, ↓app0]))
   | (refine H4 (ih ⟨i + 1, k2 + 1 + 1 + 1 + 1, s6, L ++ [⟨rq.cl, max 1 (S.getD (0 + (rq.cl).toNat) 0), rq.kd, rq.le, rq.nm⟩], Tm ++ [max 0 (nw + v4 - v5 * v6)], S, nw + v4, m + 3 + 1 + 1, m + 3 + 1 + 1 + 1 + 1, m + 3 + 1 + 1 + 1 + 1 + 1, G, cn - 1⟩ (hI.step (by omega) (by omega) h14_5.2 ⟨goodOK h8_1.1 _ (by omega), by dsimp only; omega⟩ (by omega) (by omega) hI.lS (fun y hy => ?_) ?_ ?_ ?_ ?_ (by omega) ?_ (by omega) (fun y h1 h2 => ?_)) (by dsimp only; omega)) (by (repeat first | exact LE.nil _ | refine LE.unk _ _ ?_ | refine LE.eq _ _ _ rfl ?_)) (LessH.refl _) (Nat.le_refl _)
      · have := hI.st y hy; dsimp only at this; omega
      · rw [hG]; exact Q0
      · rw [hG]; exact Q0
      · rw [hG]; exact Q0
      · rw [hG]; exact Q0
      · rw [hG]; (repeat first | exact Ch.refl _ | refine Ch.upd ?_ | refine Ch.app ?_ | assumption)
      · rw [hG]; (simp (disch := (first | omega | assumption)) only [↓appC, ↓updN, ↓updS, ↓app0]))
 ·refine A3 (A1 (wF rfl (E5 (E6 (D7 (C8 (A1 (A2 (A0 (K1 j5 (K1 j5 (S6 j5 ?_))))))))))))
  refine S6 j5 (A3 (A1 (A9 ?_)))
  obtain rfl : i = c.toNat := by omega
  have ql : L.length = Tm.length := by omega
  refine E0 (A5 rfl (A5 rfl A8)) hI.ch ⟨L, Tm, bq, bt, ?_, hI.ok, hI.tm, ⟨by omega, by omega⟩, g3, g4, ⟨by omega, by omega⟩, hI.fr⟩
  rw [q2, q3]; rfl
open Go.V
set_option linter.unusedVariables false
set_option linter.unusedSimpArgs false
set_option maxRecDepth 20000
set_option maxHeartbeats 4000000
open Go.V
set_option linter.unusedVariables false
set_option linter.unusedSimpArgs false
set_option maxRecDepth 20000
set_option maxHeartbeats 4000000
theorem s44g (t : Tb) (b n1 n2 : Bool) (hL : t.lk.length ≤ 1000) (hW : ∀ i, i < t.lk.length → (t.lk.getD i Lk0).ws.length ≤ 1048576) (hS : t.sn.length ≤ 1048576) : Pure En 44 [.agg (t.T b n1 n2)] [.agg (t.T true true true)] := by
 have hl : (t.lk.map (Lk.T b)).length = t.lk.length := List.length_map ..
 refine Pure.of_wp Try.func44 rfl kb ?_
 refine A2 (A0 (L7 (u := .agg [.int _ _, .int _ _, _, _]) j3 rfl j3 (H3 j6 (A3 (A1 (A2 (C2 [0, 1, 0, 4, 0, 0, 0, 64, 224, 511, 0, 2047] rfl (by decide +kernel) ?_)))))))
 refine D6 (off := 0) (s := 1) (r := false) j3 kz j3 ?_
 (apply E1 (v := .int _ _) j2; exact Q3; rfl; exact j5)
 refine D6 (off := 1) (s := 1) (r := false) j3 kz j3 ?_
 (apply E1 (v := .int _ _) j2; exact Q3; rfl; exact j5)
 refine dbs (es := []) j4 kz kb rfl rfl j3 (dbs (es := []) j4 kz kb rfl rfl j3 (D6 (off := 3) (s := 1) (r := false) j3 kz j3 ?_))
 (apply E1 (v := .sl _ _ _) j2; exact Q3; rfl; exact j5)
 (apply dap (s' := 48) rfl rfl; exact Q3; exact j2; rfl; exact j2; exact kz; rfl; exact (lenSnF false t.sn); (simp only [List.length_map]; omega); (simp only [List.length_map]; omega); exact j3)
 refine dbd (cs := [.int _ _, .int _ _, _, _]) j5 (dal j6 ?_)
 (apply dst (u := .agg [.int _ _, .int _ _, _, _]) rfl rfl rfl; exact Q3; rfl; rfl; rfl; rfl; rfl; exact kb; rfl; rfl; rfl)
 refine B1 12 [3, 3, 0, 3, 1, 0, 3, 3, 1, 0, 1, 0] [(1, 4), (3, 4), (1, 5), (3, 5), (4, 5), (4, 7), (5, 7), (1, 8), (3, 8), (4, 8), (1, 10), (3, 10), (4, 10), (5, 10), (7, 10), (8, 10)] j2 (by decide +kernel) ?_ ?_
 ·(simp [ClearL, ids, srcIds, Env.eval, upd, retV, A.toV, T.toV]; try omega)
 refine A1 (A2 (A2 (A0 (D0 j5 (A3 (A1 (B3 (F0 ?_))))))))
 refine E9 (fun (a : Nat × Nat) => [.unk, .ptr 0 0 0, .ptr 1 0 0, .ptr 5 0 0, .int .i64 a.1]) (fun (a : Nat × Nat) => app ([(0, some ⟨[[.int .i64 t.tm, .int .i64 t.nx, .sl false n1 (t.lk.map (Lk.T b)), .sl false n2 (t.sn.map Sn.T)]], 4, 35⟩), (1, some ⟨[[.int .i64 0, .int .i64 0, .nsl, .nsl]], 4, 35⟩), (4, some ⟨t.sn.map Sn.V, 6, 115⟩), (5, some ⟨[[.int .i64 t.tm, .int .i64 t.nx, .view a.2 0 a.1, .view 4 0 t.sn.length]], 4, 35⟩), (a.2, some ⟨(List.range a.1).map (rwV (fun i => 6 + 5 * i + 2) t.lk), 5, 29⟩)] ++ famL (fun i => 6 + 5 * i + 2) (wsF t.lk) a.1) (fun _ => none)) (fun (a : Nat × Nat) => 6 + 5 * a.1) (fun (a : Nat × Nat) => a.1 ≤ t.lk.length ∧ (a.2 = 2 ∧ a.1 = 0 ∨ a.2 = 5 * a.1 + 5 ∧ 0 < a.1)) (fun (a : Nat × Nat) => t.lk.length - a.1) (0, 2) ?_ ?_ ?_ ?_ ?_
 ·exact ⟨Nat.zero_le _, .inl ⟨rfl, rfl⟩⟩
 ·(repeat first | exact LE.nil _ | refine LE.unk _ _ ?_ | refine LE.eq _ _ _ rfl ?_)
 ·dsimp only
  refine AE (m := 0) (fun _ _ => rfl) (fun j hj => ?_) (fun j hj => ?_) (fun j hl _ _ => absurd hl (Nat.not_lt_zero _))
  ·exact absurd hj (Nat.not_lt_zero _)
  ·simp only [List.map_cons, List.map_nil, List.mem_cons, List.not_mem_nil, or_false] at hj
   refine Eq.trans ?_ (famAO (fun k _ => by rcases hj with e | e | e | e | e <;> rw [e] <;> (try dsimp only) <;> omega)).symm
   rcases hj with e | e | e | e | e <;> rw [e] <;> (simp (disch := (first | omega | (intro _ _; dsimp only; omega))) only [↓appC, ↓updN, ↓updS, ↓app0, ↓famAO]) <;> first | rfl | (first | exact congrArg (fun z => some (Blk.mk z 6 115)) (rowsSnV false t.sn) | exact congrArg (fun z => some (Blk.mk [[.int .i64 t.tm, .int .i64 t.nx, .view 2 0 0, .view 4 0 z]] 4 35)) (by simp))
 ·exact Nat.le_refl _
 intro ⟨i, lid⟩ hI ih
 dsimp only at hI ⊢
 have hI2 := hI.2
 refine E8 (A2 (A2 (A0 (B6 j5 (C1 (off := 2) (s := 1) (r := false) j3 kz j3 ?_)))))
 (apply C5 (v := .sl _ _ _) j2; exact Q3; rfl; exact j5)
 refine H0 rfl rfl rfl j3 ?_
 refine I6 j6 ?_ ?_ <;> intro h3_4
 ·refine A3 (A1 (wT rfl (B0 (A1 (A2 (B3 (A2 (A0 (C1 (off := 2) (s := 1) (r := false) j3 kz j3 ?_)))))))))
  (apply C5 (v := .sl _ _ _) j2; exact Q3; rfl; exact j5)
  refine B6 j5 ?_
  (apply N0 j4; exact Q4; (first | rfl | assumption | (exact D8 (Lk.T b) Lk0 (k := i) (by omega))); exact j4)
  refine T7 (vs := [.str _, .int _ _, .int _ _, .int _ _, _]) j3 kb j4 (H3 j6 ?_)
  (apply D4 (u := .agg [.str _, .int _ _, .int _ _, .int _ _, _]) j3; exact Q3; rfl; rfl; rfl; rfl; rfl; exact kb; rfl; exact j2)
  refine A3 (A1 (A2 (A0 (S8 (es := []) j4 kz kb rfl rfl j3 (C1 (off := 4) (s := 1) (r := false) j3 kz j3 ?_)))))
  (apply C5 (v := .sl _ _ _) j2; exact Q3; rfl; exact j5)
  (apply rap (s' := 16) rfl rfl; exact Q3; exact j2; rfl; exact j2; exact kz; rfl; exact (lenWtF false (t.lk.getD i Lk0).ws); (simp only [List.length_map]; have := hW i (by omega); omega); (simp only [List.length_map]; have := hW i (by omega); omega); exact j3)
  refine C1 (off := 4) (s := 1) (r := false) j3 kz j3 ?_
  (apply D4 (u := .view _ _ _) j3; exact Q3; rfl; rfl; rfl; rfl; rfl; exact kb; rfl; exact j2)
  refine A3 (A1 (A0 (C1 (off := 2) (s := 1) (r := false) j3 kz j3 ?_)))
  (apply C5 (v := .view _ _ _) j2; exact Q3; rfl; exact j5)
  (apply F9 (vs := [.str _, .int _ _, .int _ _, .int _ _, _]) j2; exact Q3; rfl; rfl; exact kb; rfl; exact j3)
  refine S8 (es := [[.str _, .int _ _, .int _ _, .int _ _, _]]) j4 kz kb rfl rfl j3 ?_
  (apply rap (s' := 64) (es := [[.str _, .int _ _, .int _ _, .int _ _, _]]) rfl rfl; exact Q3; exact j2; (first | rfl | (focus (simp; done)) | (focus (simp; omega))); exact j2; exact kz; (first | rfl | (apply K0 rfl; exact Q3; (first | exact Nat.le_refl _ | omega); rfl)); exact AC; exact Q32; exact Q32; exact j3)
  refine C1 (off := 2) (s := 1) (r := false) j3 kz j3 ?_
  (apply D4 (u := .view _ _ _) j3; exact Q3; rfl; rfl; rfl; rfl; rfl; exact kb; rfl; exact j2)
  refine A3 (B7 (A1 (A0 (B6 j5 (C3 j3 ?_ ?_ j3 ?_)))))
  ·exact Q4
  ·exact Q4
  refine D0 j5 (A3 (D1 ?_))
  refine H4 (ih (i + 1, 6 + 5 * i + 1 + 1 + 1 + 1) ⟨by dsimp only; omega, .inr ⟨by dsimp only; omega, by dsimp only; omega⟩⟩ (by dsimp only; omega)) (by (repeat first | exact LE.nil _ | refine LE.unk _ _ ?_ | refine LE.eq _ _ _ rfl ?_)) (by
   dsimp only
   refine AE (m := 0) (fun _ _ => rfl) (fun j hj => ?_) (fun j hj => ?_) (fun j hl _ _ => absurd hl (Nat.not_lt_zero _))
   ·refine Eq.trans ?_ (famA (w := (fun i => 6 + 5 * i + 2)) (fun a b _ _ e => by (try dsimp only at e); omega) hj).symm
    (try dsimp only)
    by_cases e : j = i
    ·rw [e]
     (simp (disch := omega) only [↓appC, ↓updN, ↓updS, ↓app0]) <;> exact congrArg (fun z => some (Blk.mk z 2 123)) (rowsWtV false _)
    ·simp (disch := omega) only [↓appC, ↓updN, ↓updS, ↓app0]
     exact famA (w := (fun i => 6 + 5 * i + 2)) (fun a b _ _ e => by (try dsimp only at e); omega) (show j < i by omega)
   ·simp only [List.map_cons, List.map_nil, List.mem_cons, List.not_mem_nil, or_false] at hj
    refine Eq.trans ?_ (famAO (fun k _ => by rcases hj with e | e | e | e | e <;> rw [e] <;> (try dsimp only) <;> omega)).symm
    rcases hj with e | e | e | e | e <;> rw [e] <;> (simp (disch := (first | omega | (intro _ _; dsimp only; omega))) only [↓appC, ↓updN, ↓updS, ↓app0, ↓famAO]) <;> first | rfl | (first | (refine congrArg (fun z => some (Blk.mk z 5 29)) ?_; simp only [List.length_map, Nat.zero_add]; exact rgSnoc2 (fun i => 6 + 5 * i + 2) t.lk i) | exact congrArg (fun z => some (Blk.mk [[.int .i64 t.tm, .int .i64 t.nx, .view z 0 (i + 1), .view 4 0 t.sn.length]] 4 35)) (by omega))) (by dsimp only; omega)
 ·refine A3 (A1 (wF rfl (E5 (E6 (D7 (C8 (A1 (A2 (A0 ?_)))))))))
  (apply F9 (vs := [.int _ _, .int _ _, _, _]) j2; exact Q3; rfl; rfl; exact kb; rfl; exact j3)
  (apply D4 (u := .agg [.int _ _, .int _ _, _, _]) j3; exact Q3; rfl; rfl; rfl; rfl; rfl; exact kb; rfl; exact j2)
  refine A3 (A1 (A9 ?_))
  obtain rfl : i = t.lk.length := by omega
  refine P9 ([lid, 4] ++ (List.range t.lk.length).map (fun i => 6 + 5 * i + 2)) (A5 (A7 rfl (by exact Q3) j2 kb rfl) A8) ?_
  refine SnapL.cons _ _ _ _ (snapTb (w := (fun i => 6 + 5 * i + 2)) (List.mem_append_left _ List.mem_cons_self) (List.mem_append_left _ (List.mem_cons_of_mem _ List.mem_cons_self)) (fun i hi => List.mem_append_right _ (List.mem_map.2 ⟨i, List.mem_range.2 hi, rfl⟩)) (by exact Q3) (fun i hi => by (simp (disch := omega) only [↓appC, ↓updN, ↓app0]); exact famA (w := (fun i => 6 + 5 * i + 2)) (fun a b _ _ e => by (try dsimp only at e); omega) hi) (by exact Q3) j2) SnapL.nil
open Go.V
set_option linter.unusedVariables false
set_option linter.unusedSimpArgs false
set_option maxRecDepth 20000
set_option maxHeartbeats 4000000
theorem rowsAn (L : List An) : rowsV (L.map An.T) = L.map An.V := by unfold rowsV; rw [List.map_map]; rfl
def iT (x : Int) : List T := [.int .i64 x]
def Rq0 : Rq := ⟨0, 0, 0, 0, ⟨#[]⟩⟩
def T1 : Tb := ⟨0, 1, [], []⟩
noncomputable def runT (L : List Rq) (Tm : List Int) : Nat → Tb × List An
 | 0 => (T1, [])
 | i + 1 => ((rqT (runT L Tm i).1 (Tm.getD i 0) (L.getD i Rq0)).1, (runT L Tm i).2 ++ [(rqT (runT L Tm i).1 (Tm.getD i 0) (L.getD i Rq0)).2])
theorem AP (L : List Rq) (Tm : List Int) : ∀ i, (runT L Tm i).2.length = i
 | 0 => rfl
 | i + 1 => by show ((runT L Tm i).2 ++ [_]).length = i + 1; rw [List.length_append, AP L Tm i]; rfl
theorem T1_OK : T1.OK := ⟨by decide, by decide, Nat.zero_le _, Nat.zero_le _, fun i hi => absurd hi (Nat.not_lt_zero _), fun i hi => absurd hi (Nat.not_lt_zero _)⟩
theorem T1_LR : LR T1 := ⟨by decide, by decide, Nat.zero_le _, fun i hi => absurd hi (Nat.not_lt_zero _), fun i _ hi => absurd hi (Nat.not_lt_zero _), fun i hi => absurd hi (Nat.not_lt_zero _)⟩
theorem G3 {α : Type} {L : List α} {i : Nat} {d : α} (h : i < L.length) : L.getD i d ∈ L := by
 rw [List.getD_eq_getElem?_getD, List.getElem?_eq_getElem h]; exact List.getElem_mem h
def Reqs (L : List Rq) (Tm : List Int) : Prop := (∀ r ∈ L, r.OK ∧ r.st ≤ 1000) ∧ (∀ x ∈ Tm, 0 ≤ x ∧ x ≤ 1000) ∧ L.length ≤ 30 ∧ Tm.length = L.length
theorem J2 {L : List Rq} {Tm : List Int} (h : Reqs L Tm) : ∀ i, i ≤ L.length → (runT L Tm i).1.OK ∧ LR (runT L Tm i).1 ∧ (runT L Tm i).1.nx ≤ 1 + 5 * i ∧ (runT L Tm i).1.tm ≤ 1000
 | 0, _ => ⟨T1_OK, T1_LR, by show (1 : Int) ≤ 1 + 5 * ((0 : Nat) : Int); omega, by show (0 : Int) ≤ 1000; omega⟩
 | i + 1, hi => by
  obtain ⟨q1, q2, q3, q4⟩ := J2 h i (by omega)
  obtain ⟨h1, h2, h3, h4⟩ := h
  have ht := h2 _ (G3 (L := Tm) (i := i) (d := 0) (by omega))
  have R := BJ (now := Tm.getD i 0) q1 (h1 _ (G3 (L := L) (i := i) (d := Rq0) (by omega))).1 ⟨ht.1, by omega⟩ (by omega)
  have e1 := R.tm
  have e2 := R.nx
  exact ⟨R.OK (by omega), R.lr, by show (rqT (runT L Tm i).1 (Tm.getD i 0) (L.getD i Rq0)).1.nx ≤ _; omega, by show (rqT (runT L Tm i).1 (Tm.getD i 0) (L.getD i Rq0)).1.tm ≤ 1000; omega⟩
structure RnS where
 i : Nat
 f : Bool
 bA : Nat
 m : Nat
 g : Heap
structure RnI (L : List Rq) (Tm : List Int) (a : RnS) : Prop where
 il : a.i ≤ L.length
 g0 : a.g 0 = some ⟨[[.int .i64 0, .int .i64 0, .nsl, .nsl]], 4, 35⟩
 g1 : a.g 1 = some ⟨[[.int .i64 (runT L Tm a.i).1.tm, .int .i64 (runT L Tm a.i).1.nx, .sl true a.f ((runT L Tm a.i).1.lk.map (Lk.T false)), .sl true a.f ((runT L Tm a.i).1.sn.map Sn.T)]], 4, 35⟩
 gA : a.g a.bA = some ⟨(runT L Tm a.i).2.map An.V, 4, 60⟩
 nA : 2 ≤ a.bA ∧ a.bA < a.m
theorem s67  : Pure En 67 [] [.agg (T1.T true true true)] := by
 refine Pure.of_wp Try.func67 rfl kb ?_
 refine A2 (A0 (H3 j6 (A3 (A1 (A2 (A0 (S8 (es := []) j4 kz kb rfl rfl j3 (S8 (es := []) j4 kz kb rfl rfl j3 (L6 (cs := [.int _ _, .int _ _, _, _]) j5 ?_)))))))))
 (apply D4 (u := .agg [.int _ _, .int _ _, _, _]) j3; exact Q0; rfl; rfl; rfl; rfl; rfl; exact kb; rfl; exact j2)
 refine A3 (A1 (A9 (P9 [1, 2] (A5 (A7 rfl (by exact Q0) j2 kb rfl) A8) ?_)))
 exact SnapL.cons _ _ _ _ (SnapC.agg (.cons _ _ _ _ (.int _ _) (.cons _ _ _ _ (.int _ _) (.cons _ _ _ _ (H7 [] (by decide) (by exact Q0) rfl rfl) (.cons _ _ _ _ (H7 [] (by decide) (by exact Q0) rfl rfl) .nil))))) SnapL.nil
theorem s26 (L : List Rq) (Tm : List Int) (b1 b2 : Bool) (hR : Reqs L Tm) : Pure En 26 [.one (.sl b1 (L.map Rq.T)), .one (.sl b2 (Tm.map iT))] [.agg ((runT L Tm L.length).1.T true true true), .one (.sl true ((runT L Tm L.length).2.map An.T)), .one (.int .i64 0)] := by
 have hl1 : (L.map Rq.T).length = L.length := List.length_map ..
 have hl2 : (Tm.map iT).length = Tm.length := List.length_map ..
 have hl3 := hR.2.2.1
 have hl4 := hR.2.2.2
 refine Pure.of_wp Try.func26 rfl kb ?_
 refine A2 (A0 (H3 j6 (AA j5 (D0 j5 (A3 (A1 (A2 (A2 (A0 (I8 j5 (H0 rfl rfl rfl j3 ?_)))))))))))
 refine V4 j6 ?_ ?_ <;> intro h1_2
 ·refine C4 j5 (A4 j3 (A4 j3 (A4 j3 (C0 (e := true) j6 (A3 (A1 (wT rfl (A2 ?_))))))))
  exact absurd hR.2.2.1 (by omega)
 ·refine C4 j5 (I8 j5 (H0 rfl rfl rfl j3 ?_))
  refine V4 j6 ?_ ?_ <;> intro h1_6
  ·refine C0 (e := true) j6 (A3 (A1 (wT rfl (A2 ?_))))
   exact absurd hR.2.2.1 (by omega)
  ·refine C0 (e := false) j6 (A3 (A1 (wF rfl (B0 (A1 (A2 (A2 (A0 (I8 j5 (H0 rfl rfl rfl j3 ?_))))))))))
   refine V4 j6 ?_ ?_ <;> intro h3_2
   ·refine C4 j5 (A4 j3 (A4 j3 (A4 j3 (A4 j3 (A4 j3 (C0 (e := true) j6 (A3 (A1 (wT rfl (A2 ?_))))))))))
    exact absurd hR.2.2.1 (by omega)
   ·refine C4 j5 (I8 j5 (H0 rfl rfl rfl j3 (I8 j5 (H0 rfl rfl rfl j3 ?_))))
    refine rne j6 ?_ ?_ <;> intro h3_8
    ·refine C0 (e := true) j6 (A3 (A1 (wT rfl (A2 ?_))))
     exact absurd hR.2.2.1 (by omega)
    ·refine C0 (e := false) j6 (A3 (A1 (wF rfl (B0 (A1 (A2 (A0 (AB s67 rfl j5 (H3 j6 ?_)))))))))
     (apply D4 (u := .agg [.int _ _, .int _ _, _, _]) j3; exact Q0; exact C7; rfl; rfl; rfl; rfl; exact kb; rfl; exact j2)
     refine A3 (A1 (A2 (A0 (S8 (es := []) j4 kz kb rfl rfl j3 (S6 j5 (A3 (A1 (A2 (A2 (A0 (D0 j5 (A3 ?_))))))))))))
     refine A1 (B3 (F0 ?_))
     refine wlG fun g0 hg0 => ?_
     refine E9 (fun (a : RnS) => [.sl false b1 (L.map Rq.T), .sl false b2 (Tm.map iT), .unk, .unk, .ptr 0 0 0, .unk, .unk, .ptr 1 0 0, .view a.bA 0 a.i, .int .i64 a.i]) (fun (a : RnS) => a.g) (fun (a : RnS) => a.m) (fun (a : RnS) => RnI L Tm a) (fun (a : RnS) => L.length - a.i) ⟨0, true, 2, 3, g0⟩ ?_ ?_ ?_ ?_ ?_
     ·refine ⟨Nat.zero_le _, ?_, ?_, ?_, ⟨Nat.le_refl _, by dsimp only; omega⟩⟩
      ·dsimp only; rw [hg0]; exact Q0
      ·dsimp only; rw [hg0]; exact Q0
      ·dsimp only; rw [hg0]; exact Q0
     ·(repeat first | exact LE.nil _ | refine LE.unk _ _ ?_ | refine LE.eq _ _ _ rfl ?_)
     ·exact LessH.refl _
     ·exact Nat.le_refl _
     intro ⟨i, f, bA, m, g⟩ hI ih
     have q0 := hI.il
     have q1 := hI.g0
     have q2 := hI.g1
     have q3 := hI.gA
     have q4 := hI.nA
     dsimp only at q0 q1 q2 q3 q4 ⊢
     obtain ⟨r1, r2, r3, r4⟩ := J2 hR i q0
     have hro : i < L.length → (L.getD i Rq0).OK := fun h => (hR.1 _ (G3 h)).1
     have hto : i < L.length → 0 ≤ Tm.getD i 0 ∧ Tm.getD i 0 ≤ 1000000000 := fun h => by have := hR.2.1 _ (G3 (L := Tm) (i := i) (d := 0) (by have := hR.2.2.2; omega)); omega
     refine E8 (A2 (A2 (A0 (B6 j5 (I8 j5 (H0 rfl rfl rfl j3 ?_))))))
     refine I6 j6 ?_ ?_ <;> intro h8_3
     ·refine A3 (A1 (wT rfl (B0 (A1 (A2 (B3 (A2 (A2 (A0 (I8 j5 (B6 j5 ?_)))))))))))
      (apply N0 j4; exact H1; exact Q36; exact j4)
      refine T7 (vs := [.int _ _, .int _ _, .int _ _, .int _ _, .str _]) j3 kb j4 ?_
      refine F3 (p73 (L.getD i Rq0)) rfl j5 ?_ ?_ <;> intro h10_4
      ·refine D5 (c := true) j5 (C4 j5 (I8 j5 (B6 j5 ?_)))
       (apply N0 j4; exact H1; exact Q36; exact j4)
       refine rlic (v := .int _ _) j8 ?_
       refine F3 (p84 _ _ _) rfl j5 ?_ ?_ <;> intro h10_11
       ·refine D5 (c := true) j5 (C0 (e := false) j6 (A3 (A1 (wF rfl (B0 (A1 (A2 ?_)))))))
        have bq := Bq.of r1 (hro (by omega)) (hto (by omega)) (by have := hR.2.2.1; omega)
        refine C2 [0, 0, 0, 6, 14, 0, 0, 96, 224, 511, 1023, 2047, 2047, 0, 0, 28671, 65535] rfl (by decide +kernel) ?_
        (apply L8 (vs := [.int _ _, .int _ _, _, _]) j2; exact Q0; exact C7; rfl; exact kb; exact j4)
        refine BL j5 (I0 j5 ?_)
        (apply K6 j4; exact H1; exact Q36; exact j4)
        refine N1 (v := .int _ _) j8 (BL j5 (I0 j5 ?_))
        (apply K6 j4; exact H1; exact Q36; exact j4)
        refine dlir (vs := [.int _ _, .int _ _, .int _ _, .int _ _, .str _]) j3 kb j4 ?_
        refine dcl (s68 (runT L Tm i).1 false f f (Tm.getD i 0) (L.getD i Rq0) bq (OK.w4 r1) (OK.hd r1) (OK.hdE r1 _) (by have q := (hro (by omega)).2.2.1; omega)) rfl j5 ?_
        refine dmT j5 (dex j6 (dex j6 (dal j6 (dal j6 ?_))))
        (apply dst (u := .agg [.int _ _, .int _ _, _, _]) rfl rfl rfl; exact Q0; exact C7; rfl; rfl; rfl; rfl; exact kb; rfl; rfl; rfl)
        (apply dst (u := .agg [.int _ _, .int _ _, .int _ _, .int _ _]) rfl rfl rfl; exact Q0; exact C7; rfl; rfl; rfl; rfl; exact kb; rfl; rfl; rfl)
        refine B1 17 [3, 3, 3, 3, 0, 0, 0, 0, 0, 0, 0, 0, 0, 0, 0, 0, 1] [(0, 13), (0, 14), (13, 14)] j2 (by decide +kernel) ?_ ?_
        ·(simp [ClearL, ids]; try omega)
        refine A1 (A2 (A0 ?_))
        (apply F9 (vs := [.int _ _, .int _ _, _, _]) j2; exact Q0; exact C7; rfl; exact kb; rfl; exact j3)
        (apply D4 (u := .agg [.int _ _, .int _ _, _, _]) j3; exact Q0; exact C7; rfl; rfl; rfl; rfl; exact kb; rfl; exact j2)
        refine A3 (A1 (A0 (K1 j5 ?_)))
        (apply F9 (vs := [.int _ _, .int _ _, .int _ _, .int _ _]) j2; exact Q0; exact C7; rfl; exact kb; rfl; exact j3)
        refine S8 (es := [[.int _ _, .int _ _, .int _ _, .int _ _]]) j4 kz kb rfl rfl j3 ?_
        (apply rap (s' := 32) (es := [[.int _ _, .int _ _, .int _ _, .int _ _]]) rfl rfl; exact Q0; exact j2; (first | rfl | (rw [List.length_map, AP]; omega)); exact j2; exact kz; exact BM; exact AC; exact Q24; exact Q24; exact j3)
        refine S6 j5 (A3 (B7 (A1 ?_)))
        refine Y1 fun G hG => ?_
        refine A0 (B6 j5 (C3 j3 ?_ ?_ j3 ?_))
        ·exact H1
        ·exact H1
        refine D0 j5 (A3 (D1 ?_))
        refine H4 (ih ⟨i + 1, false, m + 1 + 1 + 1, m + 1 + 1 + 1 + 1, G⟩ ⟨by dsimp only; omega, ?_, ?_, ?_, by dsimp only; omega⟩ (by dsimp only; omega)) (by (repeat first | exact LE.nil _ | refine LE.unk _ _ ?_ | refine LE.eq _ _ _ rfl ?_)) (LessH.refl _) (Nat.le_refl _)
        ·dsimp only; rw [hG]; exact Q0
        ·dsimp only; rw [hG]; exact Q0
        ·dsimp only; rw [hG]; show _ = some (Blk.mk (((runT L Tm i).2 ++ [_]).map An.V) 4 60); rw [List.map_append]; exact Q0
       ·refine D5 (c := false) j5 (C0 (e := true) j6 (A3 (A1 (wT rfl (A2 ?_)))))
        first | exact absurd (hro (by omega)) h10_4 | exact absurd (hto (by omega)) h10_11
      ·refine D5 (c := false) j5 (C4 j5 (A4 j3 (A4 j3 (A4 j3 (A4 j3 (A4 j3 (A4 j3 (C0 (e := true) j6 (A3 (A1 (wT rfl (A2 ?_))))))))))))
       first | exact absurd (hro (by omega)) h10_4 | exact absurd (hto (by omega)) h10_11
     ·refine A3 (A1 (wF rfl (E5 (E6 (D7 (C8 (A1 (A2 (A0 ?_)))))))))
      (apply F9 (vs := [.int _ _, .int _ _, _, _]) j2; exact Q0; exact C7; rfl; exact kb; rfl; exact j3)
      refine AB (s44g (runT L Tm i).1 false f f (by have := r1.2.2.1; omega) (fun k hk => by have := OKw r1 hk; omega) (by have := r1.2.2.2.1; omega)) rfl j5 ?_
      refine K1 j5 ?_
      (apply D4 (u := .agg [.int _ _, .int _ _, _, _]) j3; exact Q0; exact C7; rfl; rfl; rfl; rfl; exact kb; rfl; exact j2)
      refine S6 j5 (D0 j5 (A3 (A1 (A9 ?_))))
      obtain rfl : i = L.length := by omega
      refine P9 [bA] (A5 (A7 rfl (by exact Q0) j2 kb rfl) (A5 rfl (A5 rfl A8))) ?_
      exact SnapL.cons _ _ _ _ (SnapC.agg (.cons _ _ _ _ (.int _ _) (.cons _ _ _ _ (.int _ _) (.cons _ _ _ _ (.sl _ _ _ (fun _ => .inl rfl)) (.cons _ _ _ _ (.sl _ _ _ (fun _ => .inl rfl)) .nil))))) (SnapL.cons _ _ _ _ (.one _ _ (H7 ((runT L Tm L.length).2.map An.T) (List.mem_singleton.2 rfl) (by exact Q0) (rowsAn _).symm (by rw [List.length_map, AP]))) (SnapL.cons _ _ _ _ (.one _ _ (.int _ _)) SnapL.nil))
open Go.V
set_option linter.unusedVariables false
set_option linter.unusedSimpArgs false
set_option maxRecDepth 20000
set_option maxHeartbeats 4000000
def StB (B : Int) (L : List Sn) : Prop := ∀ s ∈ L, s.st ≤ B
open Go.V
set_option linter.unusedVariables false
set_option linter.unusedSimpArgs false
set_option maxRecDepth 20000
set_option maxHeartbeats 4000000
open Go.V
set_option linter.unusedVariables false
set_option linter.unusedSimpArgs false
set_option maxRecDepth 20000
set_option maxHeartbeats 4000000
open Go.V
set_option linter.unusedVariables false
set_option linter.unusedSimpArgs false
set_option maxRecDepth 20000
set_option maxHeartbeats 4000000
structure MkI (L : List Lk) (k : Int) (lb : Nat) (W : Nat → V) (h0 : Heap) (i : Nat) (y : Int) (g : Heap) : Prop where
 le : i ≤ L.length
 yk : y = kL k (L.take i)
 yb : k ≤ y ∧ y ≤ k + 2097160 * (i : Int)
 klb : g lb = some ⟨rwW (mix (ML k L) L i) W, 5, 29⟩
 kw : ∀ j, j < L.length → IsL g (W j) (((mix (ML k L) L i).getD j Lk0).ws.map wtV) 2 123
 fr : ∀ a, a ≠ lb → (∀ j, j < L.length → fpV (W j) ≠ some a) → g a = h0 a
 ch : Ch h0 g
theorem rwW_setS {L M : List Lk} {W : Nat → V} {i : Nat} {l : Lk} (hi : i < L.length) (hm : M.length = L.length) (hg : ∀ j, j < L.length → M.getD j Lk0 = if j = i then l else L.getD j Lk0) : (rwW L W).set i (l.V (W i)) = rwW M W := by
 apply List.ext_getElem?
 intro j
 rw [List.getElem?_set, B5]
 by_cases hj : j < L.length
 ·rw [F4 (L := M) (by omega), hg j hj]
  by_cases e : i = j
  ·subst e; simp [hi]
  ·rw [if_neg e, if_neg (Ne.symm e), F4 hj]
 ·rw [List.getElem?_eq_none (l := rwW M W) (by rw [B5]; omega)]
  by_cases e : i = j
  ·omega
  ·rw [if_neg e, List.getElem?_eq_none (by rw [B5]; omega)]
theorem MkI.next {L : List Lk} {k : Int} {lb : Nat} {W : Nat → V} {h0 : Heap} {i : Nat} {y : Int} {g g2 : Heap} (I : MkI L k lb W h0 i y g) (hi : i < L.length) (hW : (L.getD i Lk0).ws.length ≤ 1048577) (hlw : ∀ j, j < L.length → fpV (W j) ≠ some lb) (hww : ∀ i j a, i < L.length → j < L.length → i ≠ j → fpV (W i) = some a → fpV (W j) ≠ some a)
  (e1 : g2 lb = some ⟨(rwW (mix (ML k L) L i) W).set i ((mLk y (L.getD i Lk0).ws.length).V (W i)), 5, 29⟩) (e2 : IsL g2 (W i) ((MW (y + 1 + 1 + 1 + 1) (L.getD i Lk0).ws.length).map wtV) 2 123) (e3 : ∀ a, a ≠ lb → fpV (W i) ≠ some a → g2 a = g a) (hc : Ch g g2) :
  MkI L k lb W h0 (i + 1) (y + 1 + 1 + 1 + 1 + 2 * ((L.getD i Lk0).ws.length : Int)) g2 := by
 have hml := mix_len (i := i) (ML_len k L) I.le
 have hml1 := mix_len (i := i + 1) (ML_len k L) (show i + 1 ≤ L.length by omega)
 have hx := kL_take (k := k) hi
 have hM : (ML k L).getD i Lk0 = mLk y (L.getD i Lk0).ws.length := by rw [ML_get hi, I.yk]
 have hg : ∀ j, (mix (ML k L) L (i + 1)).getD j Lk0 = if j = i then mLk y (L.getD i Lk0).ws.length else (mix (ML k L) L i).getD j Lk0 := fun j => by
  rw [mixL (by omega), mixL I.le]
  by_cases e : j = i
  ·subst e; rw [if_pos (by omega), if_pos rfl, hM]
  ·rw [if_neg e]
   by_cases h4 : j < i
   ·rw [if_pos h4, if_pos (by omega)]
   ·rw [if_neg h4, if_neg (by omega)]
 refine ⟨by omega, by rw [hx, ← I.yk]; omega, by have := I.yb; omega, ?_, fun j hj => ?_, fun a h1 h2 => ?_, I.ch.trans hc⟩
 ·rw [e1, rwW_setS (M := mix (ML k L) L (i + 1)) (by rw [hml]; exact hi) (by rw [hml1, hml]) (fun j _ => hg j)]
 ·rw [hg j]
  by_cases e : j = i
  ·subst e; rw [if_pos rfl]; exact e2
  ·rw [if_neg e]
   refine (I.kw j hj).mono fun a ha => ?_
   exact e3 a (fun e5 => hlw j hj (by rw [← e5]; exact ha)) (hww j i a hj hi e ha)
 ·rw [e3 a h1 (h2 i hi), I.fr a h1 h2]
end Go.Proofs.Ytknnniaoboaghaa
namespace Go.V
open Go
open Go.RowKit (Below)
set_option linter.unusedVariables false
def fl1 (x : V) : V := if x.flat then x else .unk
theorem fl1_flat (x : V) : (fl1 x).flat = true := by
  unfold fl1
  split
  · assumption
  · rfl
theorem fl1_id {x : V} (h : x.flat = true) : fl1 x = x := if_pos h
theorem VR.fl1 {c : Cx} {x : V} {v : Value} (h : VR c x v) : VR c (fl1 x) v := by
  unfold V.fl1
  split
  · exact h
  · exact .unk v
def flB (b : Blk) : Blk := ⟨b.es.map (·.map fl1), b.sz, b.ty⟩
theorem CellsAt.flB {c : Cx} {p : Place} {b : Blk} (h : CellsAt c p b) : CellsAt c p (flB b) := by
  obtain ⟨cells, fz, h2, h3, h4, h5, h6, h7, h8⟩ := h
  refine ⟨cells, fz, h2, h3, h4, h5, by simpa [V.flB] using h6, fun e he => ?_, fun i j x hx => ?_⟩
  · obtain ⟨e0, h0, rfl⟩ := List.mem_map.1 he
    rw [List.length_map]; exact h7 e0 h0
  · unfold get2 at hx
    simp only [V.flB, List.getElem?_map] at hx
    cases he : b.es[i]? with
    | none => simp [he] at hx
    | some e =>
      simp only [he, Option.map_some, Option.bind_some, List.getElem?_map] at hx
      cases hj : e[j]? with
      | none => simp [hj] at hx
      | some y =>
        simp only [hj, Option.map_some, Option.some.injEq] at hx
        subst hx
        obtain ⟨v, a1, a2, a3⟩ := h8 i j y (by simp [get2, he, hj])
        exact ⟨v, a1, a2.fl1, a3⟩
theorem MapAt.flB {c : Cx} {p : Place} {b : Blk} (h : MapAt c p b) : MapAt c p (flB b) := by
  obtain ⟨es, h1, h2, h3⟩ := h
  refine ⟨es, by simpa [V.flB] using h1, by simpa [V.flB] using h2, fun i row hr => ?_⟩
  simp only [V.flB, List.getElem?_map] at hr
  cases hb : b.es[i]? with
  | none => simp [hb] at hr
  | some e =>
    simp only [hb, Option.map_some, Option.some.injEq] at hr
    subst hr
    obtain ⟨en, k, x, a1, rfl, a3, a4, a5⟩ := h3 i e hb
    exact ⟨en, fl1 k, fl1 x, a1, rfl, a3, a4.fl1, a5.fl1⟩
theorem Good.lessF {E : Env} {c : Cx} {h h' : Heap} (hg : Good E c h) (hs : ∀ id b, h' id = some b → ∃ b0, h id = some b0 ∧ b = flB b0) : Good E c h' := by
  refine ⟨fun k x hk => ?_, fun k k' x x' r r' h1 h2 => ?_, hg.imm, fun k x r h1 => ?_, hg.own, hg.base, hg.glob⟩
  · obtain ⟨b0, e1, rfl⟩ := hs k x hk
    obtain ⟨p, a1, a2, a3⟩ := hg.blk k b0 e1
    exact ⟨p, a1, fun hm => (a2 hm).flB, fun hm => (a3 hm).flB⟩
  · obtain ⟨b0, e1, _⟩ := hs _ _ h1
    obtain ⟨b1, e2, _⟩ := hs _ _ h2
    exact hg.inj k k' b0 b1 r r' e1 e2
  · obtain ⟨b0, e1, _⟩ := hs _ _ h1
    exact hg.sep k b0 r e1
theorem Open.lessF {E : Env} {f : FuncId} {args : List V} {h : Heap} {n m : Nat} {v : V} {wr wr' : List (Nat × Option Blk)} (H : Open E f args h n v wr m) (hw : ∀ i b, app wr' h i = some b → ∃ b0, app wr h i = some b0 ∧ b = flB b0) : Open E f args h n v wr' m := by
  unfold Open at H ⊢
  refine ⟨H.1, fun c vs hg hfr hal har => ?_⟩
  refine Calls.mono (H.2 c vs hg hfr hal har) ?_
  rintro e w' ⟨u, c', h1, h2, h3, h4, h5, h6⟩
  exact ⟨u, c', h1, h2, h3, h4.lessF hw, h5, h6⟩
end Go.V
namespace Go.Proofs.Ytknnniaoboaghaa
open Go.V
set_option linter.unusedVariables false
set_option linter.unusedSimpArgs false
set_option maxRecDepth 20000
set_option maxHeartbeats 4000000
structure Fresh (t : Tb) (Sl Ss : V) (W : Nat → V) (wr : List (Nat × Option Blk)) (n m : Nat) : Prop where
 tv : TabV t Sl Ss W (app wr (fun _ => none)) n m
 id : ∀ a ∈ wr.map (·.1), n ≤ a ∧ a < m
 fl : ∀ id b, app wr (fun _ => none) id = some b → ∀ e ∈ b.es, ∀ x ∈ e, x.flat = true
 own : ∀ a, a ∈ tabIds Sl Ss W t.lk.length → a ∈ wr.map (·.1)
 ne : wr ≠ []
def mkWr (X : Heap) (n : Nat) : List Nat → List (Nat × Option Blk)
 | [] => [(n, X n)]
 | a :: r => (a, X a) :: mkWr X n r
theorem O6 (X : Heap) (n : Nat) : ∀ l : List Nat, (mkWr X n l).map (·.1) = l ++ [n]
 | [] => rfl
 | a :: r => by simp [mkWr, O6 X n r]
theorem AQ (X : Heap) (n : Nat) : ∀ (l : List Nat) (h : Heap) (a : Nat), a ∈ l ++ [n] → app (mkWr X n l) h a = X a
 | [], h, a, ha => by
  simp at ha; subst ha
  simp only [mkWr, app]; exact upd_same _ _ _
 | b :: r, h, a, ha => by
  simp only [mkWr, app]
  by_cases hr : a ∈ r ++ [n]
  ·exact AQ X n r _ a hr
  ·have e : a = b := by simp at ha hr; rcases ha with h | h | h <;> first | exact h | exact absurd h (by simp [hr])
   rw [O0 _ _ _ (by rw [O6]; exact hr), e]; exact upd_same _ _ _
theorem mkWr_less (X : Heap) (n : Nat) (l : List Nat) (i : Nat) (b : Blk) (h : app (mkWr X n l) (fun _ => none) i = some b) : X i = some b := by
 by_cases hi : i ∈ l ++ [n]
 ·rwa [AQ X n l _ i hi] at h
 ·rw [O0 _ _ _ (by rw [O6]; exact hi)] at h; cases h
theorem tabIds_V {t : Tb} {Sl Ss : V} {W : Nat → V} {h : Heap} {n0 n a : Nat} (T : TabV t Sl Ss W h n0 n) (ha : a ∈ tabIds Sl Ss W t.lk.length) : n0 ≤ a ∧ a < n := by
 rcases tabIds_own (id := n) ha with e | e | e | ⟨i, hi, e⟩
 ·subst e
  unfold tabIds at ha
  rcases List.mem_append.1 ha with h | h
  ·rcases List.mem_append.1 h with h | h
   ·exact T.fl a (Option.mem_toList.1 h)
   ·exact (T.fs a (Option.mem_toList.1 h)).1
  ·obtain ⟨i, h1, h2⟩ := List.mem_filterMap.1 h
   exact (T.fw i a (List.mem_range.1 h1) h2).1
 ·exact T.fl a e
 ·exact (T.fs a e).1
 ·exact (T.fw i a hi e).1
theorem AS {Sl Ss : V} {W : Nat → V} {k a : Nat} (h : fpV Sl = some a) : a ∈ tabIds Sl Ss W k := List.mem_append_left _ (List.mem_append_left _ (Option.mem_toList.2 h))
theorem AT {Sl Ss : V} {W : Nat → V} {k a : Nat} (h : fpV Ss = some a) : a ∈ tabIds Sl Ss W k := List.mem_append_left _ (List.mem_append_right _ (Option.mem_toList.2 h))
theorem X1 {Sl Ss : V} {W : Nat → V} {k a i : Nat} (hi : i < k) (h : fpV (W i) = some a) : a ∈ tabIds Sl Ss W k := List.mem_append_right _ (List.mem_filterMap.2 ⟨i, List.mem_range.2 hi, h⟩)
theorem TabV.at {t : Tb} {Sl Ss : V} {W : Nat → V} {h g : Heap} {n0 n m : Nat} (T : TabV t Sl Ss W h n0 n) (hm : n ≤ m) (e : ∀ a, a ∈ tabIds Sl Ss W t.lk.length → g a = h a) : TabV t Sl Ss W g n0 m :=
 ⟨T.kl.mono fun a h => e a (AS h), T.ks.mono fun a h => e a (AT h), fun i hi => (T.kw i hi).mono fun a h => e a (X1 hi h),
  fun a h => ⟨(T.fl a h).1, by have := (T.fl a h).2; omega⟩, fun a h => ⟨⟨(T.fs a h).1.1, by have := (T.fs a h).1.2; omega⟩, (T.fs a h).2⟩, fun i a hi h => ⟨⟨(T.fw i a hi h).1.1, by have := (T.fw i a hi h).1.2; omega⟩, (T.fw i a hi h).2⟩⟩
theorem cellFlatL {h : Heap} {v : V} {rows : List (List V)} {sz ty : Nat} (k : IsL h v rows sz ty) : v.flat = true := by
 rcases k with ⟨rfl, _⟩ | ⟨id, pre, rfl, _⟩ <;> rfl
theorem rwFlat {L : List Lk} {W : Nat → V} (h : ∀ i, i < L.length → (W i).flat = true) : (rwW L W).map (·.map fl1) = rwW L W := by
 unfold rwW
 rw [List.map_map]
 refine List.map_congr_left fun i hi => ?_
 have := h i (List.mem_range.1 hi)
 simp only [Function.comp, Lk.V, List.map_cons, List.map_nil, fl1_id this]
 rfl
theorem snFlat (L : List Sn) : (L.map Sn.V).map (·.map fl1) = L.map Sn.V := by
 rw [List.map_map]; rfl
theorem wtFlat (L : List Wt) : (L.map wtV).map (·.map fl1) = L.map wtV := by
 rw [List.map_map]; rfl
theorem TabV.flat {t : Tb} {Sl Ss : V} {W : Nat → V} {h g : Heap} {n0 n m : Nat} (T : TabV t Sl Ss W h n0 n) (hm : n ≤ m) (e : ∀ a, a ∈ tabIds Sl Ss W t.lk.length → g a = (h a).map flB) : TabV t Sl Ss W g n0 m := by
 refine ⟨?_, ?_, fun i hi => ?_, fun a h => ⟨(T.fl a h).1, by have := (T.fl a h).2; omega⟩, fun a h => ⟨⟨(T.fs a h).1.1, by have := (T.fs a h).1.2; omega⟩, (T.fs a h).2⟩, fun i a hi h => ⟨⟨(T.fw i a hi h).1.1, by have := (T.fw i a hi h).1.2; omega⟩, (T.fw i a hi h).2⟩⟩
 ·rcases T.kl with ⟨h1, h2⟩ | ⟨lb, h1, h2⟩
  ·exact .inl ⟨h1, h2⟩
  ·refine .inr ⟨lb, h1, ?_⟩
   rw [e lb (AS (by rw [h1]; rfl)), h2]
   show some (Blk.mk ((rwW t.lk W).map (·.map fl1)) 5 29) = _
   rw [rwFlat (fun i hi => cellFlatL (T.kw i hi))]
 ·rcases T.ks with ⟨h1, h2⟩ | ⟨sb, h1, h2⟩
  ·exact .inl ⟨h1, h2⟩
  ·refine .inr ⟨sb, h1, ?_⟩
   rw [e sb (AT (by rw [h1]; rfl)), h2]
   show some (Blk.mk ((t.sn.map Sn.V).map (·.map fl1)) 6 115) = _
   rw [snFlat]
 ·rcases T.kw i hi with ⟨h1, h2⟩ | ⟨wb, pre, h1, h2⟩
  ·exact .inl ⟨h1, h2⟩
  ·refine .inr ⟨wb, pre.map (·.map fl1), by rw [List.length_map]; exact h1, ?_⟩
   rw [e wb (X1 hi (by rw [h1]; rfl)), h2]
   show some (Blk.mk ((pre ++ (t.lk.getD i Lk0).ws.map wtV).map (·.map fl1)) 2 123) = _
   rw [List.map_append, wtFlat]
theorem Fresh.of {f : FuncId} {args : List V} {n : Nat} {t : Tb} {mk : V → V → V} {Z : V → V → (Nat → V) → Prop}
  (H : OpenM En f args (fun _ => none) n (fun v g m => ∃ Sl Ss W, v = mk Sl Ss ∧ TabV t Sl Ss W g n m ∧ Z Sl Ss W)) :
  ∃ Sl Ss W wr m, Fresh t Sl Ss W wr n m ∧ Z Sl Ss W ∧ V.Open En f args (fun _ => none) n (mk Sl Ss) wr m := by
 obtain ⟨⟨v, wr, m⟩, ⟨Sl, Ss, W, hv, T, z⟩, hO⟩ := H
 dsimp only at hv T hO
 subst hv
 have hle := hO.le
 have key : ∀ i b, app (mkWr (fun a => if a ∈ tabIds Sl Ss W t.lk.length then (app wr (fun _ => none) a).map flB else none) n (tabIds Sl Ss W t.lk.length)) (fun _ => none) i = some b → ∃ b0, app wr (fun _ => none) i = some b0 ∧ b = flB b0 := fun i b hb => by
  have h1 := mkWr_less _ _ _ _ _ hb
  (try dsimp only at h1)
  split at h1
  ·obtain ⟨b0, h2, h3⟩ := Option.map_eq_some_iff.1 h1
   exact ⟨b0, h2, h3.symm⟩
  ·cases h1
 refine ⟨Sl, Ss, W, mkWr (fun a => if a ∈ tabIds Sl Ss W t.lk.length then (app wr (fun _ => none) a).map flB else none) n (tabIds Sl Ss W t.lk.length), m + 1, ⟨T.flat (Nat.le_succ _) (fun a ha => ?_), fun a ha => ?_, fun i b hb e he x hx => ?_, fun a ha => ?_, fun e => ?_⟩, z, V.Open.weakN (V.Open.lessF hO key) (Nat.le_succ _)⟩
 ·rw [AQ _ _ _ _ a (List.mem_append_left _ ha), if_pos ha]
 ·rw [O6] at ha
  rcases List.mem_append.1 ha with h | h
  ·have := tabIds_V T h; omega
  ·have := List.mem_singleton.1 h; omega
 ·obtain ⟨b0, _, rfl⟩ := key i b hb
  obtain ⟨e0, _, rfl⟩ := List.mem_map.1 he
  obtain ⟨x0, _, rfl⟩ := List.mem_map.1 hx
  exact fl1_flat x0
 ·rw [O6]; exact List.mem_append_left _ ha
 ·have := congrArg (List.map (·.1)) e
  rw [O6] at this
  simp at this
def AllV (k : Nat) (Sl Ss : V) (W : Nat → V) : Prop := fpV Sl ≠ none ∧ fpV Ss ≠ none ∧ ∀ i, i < k → fpV (W i) ≠ none
open Go.V
set_option linter.unusedVariables false
set_option linter.unusedSimpArgs false
set_option maxRecDepth 20000
set_option maxHeartbeats 4000000
open Go.V
set_option linter.unusedVariables false
set_option linter.unusedSimpArgs false
set_option maxRecDepth 20000
set_option maxHeartbeats 4000000
def nlT (b : Bool) (rows : List (List T)) : T := if b then .sl true rows else .nsl
def Lk.N (b : Bool) (l : Lk) : List V.T := [.str l.nm, .int .i64 l.tk, .int .i64 l.hd, .int .i64 l.ex, nlT b (l.ws.map wtT)]
def lksN (B : Nat → Bool) (L : List Lk) : List (List V.T) := (List.range L.length).map fun i => (L.getD i Lk0).N (B i)
def Tb.N (t : Tb) (B : Nat → Bool) (b1 b2 : Bool) : List V.T := [.int .i64 t.tm, .int .i64 t.nx, nlT b1 (lksN B t.lk), nlT b2 (t.sn.map Sn.T)]
structure NilOK (t : Tb) (B : Nat → Bool) (b1 b2 : Bool) : Prop where
 l : b1 = false → t.lk = []
 s : b2 = false → t.sn = []
 w : ∀ i, i < t.lk.length → B i = false → (t.lk.getD i Lk0).ws = []
theorem L3 (B : Nat → Bool) (L : List Lk) : (lksN B L).length = L.length := by simp [lksN]
theorem I2 {B : Nat → Bool} {L : List Lk} {i : Nat} (h : i < L.length) : (lksN B L)[i]? = some ((L.getD i Lk0).N (B i)) := by simp [lksN, h]
def isV (v : V) : Bool := (fpV v).isSome
theorem snapN1 {h : Heap} {ids : List Nat} {r : Bool} {v : V} {L : List Wt} (k : IsL h v (L.map wtV) 2 123) (hid : ∀ a, fpV v = some a → a ∈ ids) : Snap h ids r v (nlT (isV v) (L.map wtT)) := by
 rcases k with ⟨rfl, k⟩ | ⟨id, pre, rfl, k⟩
 ·exact .nsl
 ·exact snapWsP (hid id rfl) k rfl (by simp)
theorem snapN2 {h : Heap} {ids : List Nat} {r : Bool} {v : V} {L : List Sn} (k : IsZ h v (L.map Sn.V) 6 115) (hid : ∀ a, fpV v = some a → a ∈ ids) : Snap h ids r v (nlT (isV v) (L.map Sn.T)) := by
 rcases k with ⟨rfl, k⟩ | ⟨id, rfl, k⟩
 ·exact .nsl
 ·exact snapSn (hid id rfl) k (by simp)
theorem snapN3 {h : Heap} {ids : List Nat} {r : Bool} {v : V} {L : List Lk} {W : Nat → V} (k : IsZ h v (rwW L W) 5 29) (hid : ∀ a, fpV v = some a → a ∈ ids) (hw : ∀ i, i < L.length → Snap h ids r (W i) (nlT (isV (W i)) ((L.getD i Lk0).ws.map wtT))) : Snap h ids r v (nlT (isV v) (lksN (fun i => isV (W i)) L)) := by
 rcases k with ⟨rfl, k⟩ | ⟨id, rfl, k⟩
 ·exact .nsl
 ·have e : ((rwW L W).drop 0).take (rwW L W).length = rwW L W := by rw [List.drop_zero, List.take_of_length_le (Nat.le_refl _)]
  have e2 : ∀ i, i < L.length → (lksN (fun i => isV (W i)) L)[i]? = some ((L.getD i Lk0).N (isV (W i))) := fun i h => I2 h
  refine .view id 0 _ _ _ (hid id rfl) k (by dsimp only; omega) (by rw [B5, L3]) (fun i x y h1 h2 => ?_) (fun i j x y h1 h2 => ?_)
  ·dsimp only at h1
   rw [e] at h1
   have hi : i < L.length := by have := (List.getElem?_eq_some_iff.1 h1).1; rw [B5] at this; exact this
   rw [F4 hi] at h1; rw [e2 i hi] at h2
   cases h1; cases h2; rfl
  ·dsimp only at h1
   rw [e] at h1
   unfold get2 at h1 h2
   by_cases hi : i < L.length
   ·rw [F4 hi] at h1; rw [e2 i hi] at h2
    match j with
    | 0 => cases h1; cases h2; exact .str _
    | 1 => cases h1; cases h2; exact .int _ _
    | 2 => cases h1; cases h2; exact .int _ _
    | 3 => cases h1; cases h2; exact .int _ _
    | 4 => cases h1; cases h2; exact hw i hi
    | j + 5 => exact absurd h1 nofun
   ·rw [show (rwW L W)[i]? = none from List.getElem?_eq_none (by rw [B5]; omega)] at h1; exact absurd h1 nofun
theorem snapTabN {t : Tb} {Sl Ss : V} {W : Nat → V} {h : Heap} {n0 n : Nat} {ids : List Nat} {r : Bool} (T : TabV t Sl Ss W h n0 n) (hid : ∀ a, a ∈ tabIds Sl Ss W t.lk.length → a ∈ ids) :
  SnapA h ids r (.agg [.int .i64 t.tm, .int .i64 t.nx, Sl, Ss]) (.agg (t.N (fun i => isV (W i)) (isV Sl) (isV Ss))) :=
 SnapC.agg (.cons _ _ _ _ (.int _ _) (.cons _ _ _ _ (.int _ _) (.cons _ _ _ _ (snapN3 T.kl (fun a ha => hid a (AS ha)) (fun i hi => snapN1 (T.kw i hi) (fun a ha => hid a (X1 hi ha)))) (.cons _ _ _ _ (snapN2 T.ks (fun a ha => hid a (AT ha))) .nil))))
theorem TabV.nilOK {t : Tb} {Sl Ss : V} {W : Nat → V} {h : Heap} {n0 n : Nat} (T : TabV t Sl Ss W h n0 n) : NilOK t (fun i => isV (W i)) (isV Sl) (isV Ss) := by
 refine ⟨fun e => ?_, fun e => ?_, fun i hi e => ?_⟩
 ·rcases T.kl with ⟨_, k⟩ | ⟨id, rfl, _⟩
  ·exact List.eq_nil_of_length_eq_zero (by rw [← B5 t.lk W, k]; rfl)
  ·cases e
 ·rcases T.ks with ⟨_, k⟩ | ⟨id, rfl, _⟩
  ·exact List.map_eq_nil_iff.1 k
  ·cases e
 ·rcases T.kw i hi with ⟨_, k⟩ | ⟨id, pre, k1, _⟩
  ·exact List.map_eq_nil_iff.1 k
  ·(try dsimp only at e); rw [k1] at e; cases e
theorem o91n (fr b : Bool) (L : List Wt) (hb : b = false → L = []) (hL : L.length ≤ 1048576) {h : Heap} {n : Nat} : OpenM En 91 [T.toV fr (nlT b (L.map wtT))] h n (fun v g m => IsL g v (L.map wtV) 2 123 ∧ (∀ a, fpV v = some a → n ≤ a ∧ a < m) ∧ (∀ a, a < n → g a = h a) ∧ n ≤ m) := by
 cases b with
 | false =>
  obtain rfl := hb rfl
  refine OpenM.of_wp (args := [.nsl]) Try.func91 rfl kb ?_
  refine A2 (A0 (AA j5 (A3 (A1 (A2 (A2 (A0 (rmN j5 (rnil (c := true) j6 (A3 (A1 (wT rfl ?_))))))))))))
  refine A2 (A0 (AA j5 (A3 (A1 (A9 (B2 ?_))))))
  exact E0 rfl (Ch.refl _) ⟨.inl ⟨rfl, rfl⟩, nofun, fun _ _ => rfl, Nat.le_refl _⟩
 | true =>
  refine V.Open.toM (o91 fr L hL) ⟨.inr ⟨n + 1, [], ?_, ?_⟩, fun a ha => ?_, fun a ha => ?_, by omega⟩
  ·rw [List.length_map]; rfl
  ·show upd h (n + 1) _ (n + 1) = _; exact upd_same _ _ _
  ·cases ha; omega
  ·show upd h (n + 1) _ a = h a; exact B8 _ _ (by omega)
open Go.V
set_option linter.unusedVariables false
set_option linter.unusedSimpArgs false
set_option maxRecDepth 20000
set_option maxHeartbeats 4000000
theorem U1 {L : List Lk} {i : Nat} (h : i < L.length) : insL (L.take i) i (L.getD i Lk0) = L.take (i + 1) := by
 unfold insL
 rw [List.take_take, Nat.min_self, List.drop_eq_nil_of_le (by rw [List.length_take]; omega), List.take_add_one]
 simp [h]
theorem P3 {fr b : Bool} {rows : List (List V.T)} : (T.toV fr (nlT b rows)).cell = true := by cases b <;> rfl
theorem U2 {h : Heap} {v : V} {rows : List (List V)} {sz ty : Nat} (k : IsL h v rows sz ty) : v.known = true := by
 rcases k with ⟨rfl, _⟩ | ⟨id, pre, rfl, _⟩ <;> rfl
theorem J7 {h : Heap} {v : V} {rows : List (List V)} {sz ty : Nat} (k : IsL h v rows sz ty) : v.cells = [v] := by
 rcases k with ⟨rfl, _⟩ | ⟨id, pre, rfl, _⟩ <;> rfl
theorem AD {h : Heap} {v : V} {rows : List (List V)} {sz ty : Nat} (k : IsL h v rows sz ty) : v.cells.all V.cell = true := by
 rcases k with ⟨rfl, _⟩ | ⟨id, pre, rfl, _⟩ <;> rfl
structure CpS where
 i : Nat
 m : Nat
 Sl : V
 W : Nat → V
 g : Heap
structure CpI (t : Tb) (bx n : Nat) (Ss : V) (h0 : Heap) (a : CpS) : Prop where
 il : a.i ≤ t.lk.length
 T : TabM ⟨t.tm, t.nx, t.lk.take a.i, t.sn⟩ bx a.Sl Ss a.W a.g a.m
 fr : ∀ x, x < n → a.g x = h0 x
 ow : ∀ x, OwnT bx a.Sl Ss a.W (t.lk.take a.i).length x → n + 2 ≤ x
 z : a.g (n + 1) = some ⟨[[.int .i64 0, .int .i64 0, .nsl, .nsl]], 4, 35⟩
 ch : Ch h0 a.g
 le : n + 2 ≤ a.m
theorem s90z  : Pure En 90 [.one .nsl] [.one .nsl] := by
 refine Pure.of_wp Try.func90 rfl kb ?_
 refine A2 (A0 (AA j5 (A3 (A1 (A2 (A2 (A0 (rmN j5 (rnil (c := true) j6 (A3 (A1 (wT rfl ?_))))))))))))
 refine A2 (A0 (AA j5 (A3 (A1 (A9 (B2 ?_))))))
 exact fin rfl rfl
theorem o49t (t : Tb) (B : Nat → Bool) (fr : Bool) (hN : NilOK t B true true) (hL : t.lk.length ≤ 1000) (hW : ∀ i, i < t.lk.length → (t.lk.getD i Lk0).ws.length ≤ 1048576) (hS : t.sn.length ≤ 1048576) {h : Heap} {n : Nat} :
  OpenM En 49 [.agg [.int .i64 t.tm, .int .i64 t.nx, .sl fr true (lksN B t.lk), .sl fr true (t.sn.map Sn.T)]] h n (fun v g m => ∃ Sl Ss W, v = .agg [.int .i64 t.tm, .int .i64 t.nx, Sl, Ss] ∧ TabV t Sl Ss W g n m ∧ (∀ a, a < n → g a = h a) ∧ n ≤ m) := by
 have hl : (lksN B t.lk).length = t.lk.length := L3 B t.lk
 refine OpenM.of_wp Try.func49 rfl kb ?_
 refine A2 (A0 ?_)
 (refine L7 (u := .agg [.int .i64 t.tm, .int .i64 t.nx, .sl fr true (lksN B t.lk), .sl fr true (t.sn.map Sn.T)]) j3 rfl j3 ?_)
 refine H3 j6 (A3 (A1 (A2 (C2 [0, 1, 0, 4, 0, 16, 48, 127, 0, 511] rfl (by decide +kernel) ?_))))
 refine D6 (off := 0) (s := 1) (r := false) j3 kz j3 ?_
 (apply E1 (v := .int _ _) j2; exact Q0; exact Q5; exact j5)
 refine D6 (off := 1) (s := 1) (r := false) j3 kz j3 ?_
 (apply E1 (v := .int _ _) j2; exact Q0; exact Q5; exact j5)
 refine D6 (off := 3) (s := 1) (r := false) j3 kz j3 ?_
 (apply E1 (v := .sl _ _ _) j2; exact Q0; exact Q5; exact j5)
 (apply dfr (o90 fr t.sn hS) rfl j2; (intro x hx; simp only [List.mem_cons, List.not_mem_nil, or_false] at hx; subst hx; rfl); rfl; (exact flatSn t.sn); exact List.cons_ne_nil _ _; exact j3)
 refine dbd (cs := [.int _ _, .int _ _, _, _]) j5 (dal j6 ?_)
 (apply dst (u := .agg [.int _ _, .int _ _, _, _]) rfl rfl rfl; exact Q0; exact Q5; rfl; rfl; rfl; exact Q25; exact kb; rfl; rfl; rfl)
 refine B1 10 [3, 3, 0, 3, 1, 0, 1, 0, 1, 0] [(1, 6), (3, 6), (1, 8), (3, 8), (5, 8), (6, 8)] j2 (by decide +kernel) ?_ ?_
 ·(simp [ClearL, ids]; try omega)
 refine A1 (A2 (A2 (A0 (C1 (off := 2) (s := 1) (r := false) j3 kz j3 ?_))))
 (apply C5 (v := .sl _ _ _) j2; exact Q0; exact Q5; exact j5)
 refine H0 rfl rfl rfl j3 (B6 j5 (A3 (A1 (B3 (F0 ?_)))))
 refine wlG fun g0 hg0 => ?_
 refine E9 (fun (a : CpS) => [.unk, .ptr n 0 0, .ptr (n + 1) 0 0, .ptr (n + 4) 0 0, .unk, .unk, .unk, .unk, .unk, .unk, .unk, .unk, .unk, .unk, .unk, .sl fr true (lksN B t.lk), .int .i64 (lksN B t.lk).length, .int .i64 a.i]) (fun (a : CpS) => a.g) (fun (a : CpS) => a.m) (fun (a : CpS) => CpI t (n + 4) n (.view (n + 3) 0 t.sn.length) h a) (fun (a : CpS) => t.lk.length - a.i) ⟨0, (n + 4) + 1, .nsl, fun _ => .nsl, g0⟩ ?_ ?_ ?_ ?_ ?_
 ·refine ⟨Nat.zero_le _, ⟨by dsimp only; omega, ?_, .inl ⟨rfl, rfl⟩, ?_, fun i hi => absurd hi (Nat.not_lt_zero _), nofun, fun a ha => ?_, fun i a hi _ => absurd hi (Nat.not_lt_zero _)⟩, fun a ha => ?_, fun a o => ?_, ?_, ?_, by dsimp only; omega⟩
  ·dsimp only; rw [hg0]; exact Q0
  ·exact .inr ⟨n + 3, by rw [List.length_map], by dsimp only; rw [hg0]; exact Q0⟩
  ·cases ha; exact ⟨by dsimp only; omega, by omega, nofun⟩
  ·dsimp only; rw [hg0]; (simp (disch := (first | omega | assumption)) only [↓appC, ↓updN, ↓updS, ↓app0])
  ·rcases o with e | e | e | ⟨i, hi, e⟩
   ·omega
   ·cases e
   ·cases e; omega
   ·exact absurd hi (Nat.not_lt_zero _)
  ·dsimp only; rw [hg0]; exact Q0
  ·dsimp only; rw [hg0]; (repeat first | exact Ch.refl _ | refine Ch.upd ?_ | refine Ch.app ?_ | assumption)
 ·(repeat first | exact LE.nil _ | refine LE.unk _ _ ?_ | refine LE.eq _ _ _ rfl ?_)
 ·exact LessH.refl _
 ·exact Nat.le_refl _
 intro ⟨i, m, Sl, W, g⟩ hI ih
 have q0 := hI.il
 have q1 := hI.T.kid
 have q2 := hI.T.idn
 have q3 := hI.le
 have q4 := hI.z
 have q5 := hI.fr
 dsimp only at q0 q1 q2 q3 q4 q5 ⊢
 have hti : (t.lk.take i).length = i := by rw [List.length_take]; omega
 rcases hI.T.kl with ⟨e, hz⟩ | ⟨lb, e, kl⟩
 ·skip
  dsimp only at e
  subst e
  have hi0 : i = 0 := by have q := congrArg List.length hz; rw [B5] at q; dsimp only at q; rw [hti] at q; exact q
  refine E8 (A2 (A0 ?_))
  refine I6 j6 ?_ ?_ <;> intro h3_0
  ·refine A3 (A1 (A2 (wT rfl (B0 (A1 (A2 (B3 (A2 (A0 ?_)))))))))
   (apply N0 j4; exact Q4; (first | rfl | assumption | exact I2 (i := i) (by omega)); exact j4)
   refine T7 (vs := [.str _, .int _ _, .int _ _, .int _ _, _]) j3 kb j4 (H3 j6 ?_)
   (apply D4 (u := .agg [.str _, .int _ _, .int _ _, .int _ _, _]) j3; exact Q0; exact Q5; rfl; rfl; rfl; exact Q25; exact kb; rfl; exact j2)
   refine A3 (A1 (A2 ?_))
   refine Y1 fun g5 hg5 => ?_
   have k5 : g5 m = some ⟨[[.str (t.lk.getD i Lk0).nm, .int .i64 (t.lk.getD i Lk0).tk, .int .i64 (t.lk.getD i Lk0).hd, .int .i64 (t.lk.getD i Lk0).ex, T.toV fr (nlT (B i) ((t.lk.getD i Lk0).ws.map wtT))]], 5, 29⟩ := by rw [hg5]; exact Q0
   refine A0 (C1 (off := 4) (s := 1) (r := false) j3 kz j3 ?_)
   (apply C5  j2; exact Q0; exact Q5; exact j5)
   refine K9 (o91n fr (B i) (t.lk.getD i Lk0).ws (hN.w i (by omega)) (hW i (by omega))) rfl j5 ?_
   rintro v1 g1 m1 ⟨hk1, hf1, hr1, hl1⟩ hc1 hle1
   have k6 : g1 m = some ⟨[[.str (t.lk.getD i Lk0).nm, .int .i64 (t.lk.getD i Lk0).tk, .int .i64 (t.lk.getD i Lk0).hd, .int .i64 (t.lk.getD i Lk0).ex, T.toV fr (nlT (B i) ((t.lk.getD i Lk0).ws.map wtT))]], 5, 29⟩ := by rw [hr1 m (by omega)]; exact k5
   have kx : g1 (n + 4) = some ⟨[[.int .i64 t.tm, .int .i64 t.nx, .nsl, (.view (n + 3) 0 t.sn.length)]], 4, 35⟩ := by rw [hr1 _ (by have := hI.T.idn; dsimp only at this; omega), hg5]; exact Q0
   refine C1 (off := 4) (s := 1) (r := false) j3 kz j3 ?_
   (apply D4 (u := v1) j3; exact Q0; (first | rfl | exact List.getElem?_set_self (by assumption)); rfl; exact U2 hk1; exact congrArg List.length (J7 hk1); exact AD hk1; exact kb; exact congrArg (splice _ _) (J7 hk1); exact j2)
   refine A3 (A1 (A0 (C1 (off := 2) (s := 1) (r := false) j3 kz j3 ?_)))
   (apply C5 (v := .nsl) j2; exact Q0; exact Q5; exact j5)
   (apply F9 (vs := [.str _, .int _ _, .int _ _, .int _ _, _]) j2; exact Q0; exact Q5; rfl; exact kb; rfl; exact j3)
   (refine S8 (es := [[.str _, .int _ _, .int _ _, .int _ _, v1]]) j4 kz kb rfl ?_ j3 ?_; focus (show ((v1.cell && true) && true) = true; rw [hk1.cell]; rfl))
   (apply ran (s' := 64)  rfl j3 kz; exact BM; exact AC; exact Q16; exact Q16; exact Q16; exact j3)
   refine C1 (off := 2) (s := 1) (r := false) j3 kz j3 ?_
   (apply D4 (u := .view _ _ _) j3; exact Q0; exact Q5; rfl; rfl; rfl; exact Q25; exact kb; rfl; exact j2)
   refine A3 (B7 (A1 ?_))
   refine Y1 fun G hG => ?_
   refine A0 (C3 j3 ?_ ?_ j3 ?_)
   ·exact Q4
   ·exact Q4
   refine B6 j5 (A3 (D1 ?_))
   refine H4 (ih ⟨i + 1, m1 + 1 + 1, .view (m1 + 1) 0 (i + 1), insW W i v1, G⟩ ⟨by dsimp only; omega, ?_, fun x hx => ?_, fun x o => ?_, ?_, ?_, by dsimp only; omega⟩ (by dsimp only; omega)) (by (repeat first | exact LE.nil _ | refine LE.unk _ _ ?_ | refine LE.eq _ _ _ rfl ?_)) (LessH.refl _) (Nat.le_refl _)
   ·have T := hI.T.insLk (k := i) (g := G) (m := m1 + 1 + 1) (by show i ≤ (t.lk.take i).length; omega) (t.lk.getD i Lk0) v1 t.nx (m1 + 1) (by dsimp only; omega) (by dsimp only; omega) ?_ ?_ ?_ ?_ ?_
    ·dsimp only at T
     rw [hti, U1 (by omega)] at T
     exact T
    ·dsimp only; rw [hti]; refine Eq.trans (b := some ⟨[[.int .i64 t.tm, .int .i64 t.nx, .view (m1 + 1) 0 1, (.view (n + 3) 0 t.sn.length)]], 4, 35⟩) (by rw [hG]; exact Q0) (congrArg (fun z => some (Blk.mk [[.int .i64 t.tm, .int .i64 t.nx, .view (m1 + 1) 0 z, (.view (n + 3) 0 t.sn.length)]] 4 35)) (by first | omega | (focus (simp only [B5, hti, List.length_cons, List.length_nil]; done)) | (focus (simp only [B5, hti, List.length_cons, List.length_nil]; omega))))
    ·dsimp only; refine Eq.trans (b := some ⟨[[.str (t.lk.getD i Lk0).nm, .int .i64 (t.lk.getD i Lk0).tk, .int .i64 (t.lk.getD i Lk0).hd, .int .i64 (t.lk.getD i Lk0).ex, v1]], 5, 29⟩) (by rw [hG]; exact Q0) (congrArg (fun z => some (Blk.mk z 5 29)) ?_)
     rw [hi0]; rfl
    ·exact hk1.mono fun a ha => by have := hf1 a ha; rw [hG]; (simp (disch := (first | omega | assumption)) only [↓appC, ↓updN, ↓updS, ↓app0])
    ·exact fun a ha => by have := hf1 a ha; exact ⟨by omega, by dsimp only; omega, by omega⟩
    ·exact fun a o h1 h2 => by
      have h3 := hI.T.lt o
      dsimp only at h3 h1 h2 ⊢
      skip
      rw [hG]; (simp (disch := (first | omega | assumption)) only [↓appC, ↓updN, ↓updS, ↓app0])
      rw [hr1 a (by omega), hg5]; (simp (disch := (first | omega | assumption)) only [↓appC, ↓updN, ↓updS, ↓app0])
   ·dsimp only
    skip
    rw [hG]; (simp (disch := (first | omega | assumption)) only [↓appC, ↓updN, ↓updS, ↓app0])
    rw [hr1 x (by omega), hg5]; (simp (disch := (first | omega | assumption)) only [↓appC, ↓updN, ↓updS, ↓app0])
    exact q5 x hx
   ·rcases o with e | e | e | ⟨j, hj, e⟩
    ·omega
    ·cases e; omega
    ·exact hI.ow x (.inr (.inr (.inl e)))
    ·dsimp only at e hj
     unfold insW at e
     split at e
     ·next c => exact hI.ow x (.inr (.inr (.inr ⟨j, by show j < (t.lk.take i).length; omega, e⟩)))
     ·split at e
      ·have := hf1 x e; omega
      ·next c1 c2 => rw [List.length_take] at hj; omega
   ·dsimp only; skip; rw [hG]; (simp (disch := (first | omega | assumption)) only [↓appC, ↓updN, ↓updS, ↓app0])
    rw [hr1 _ (by omega), hg5]; (simp (disch := (first | omega | assumption)) only [↓appC, ↓updN, ↓updS, ↓app0])
    exact q4
   ·dsimp only
    refine hI.ch.trans ?_
    rw [hG]
    (repeat first | exact Ch.refl _ | refine Ch.upd ?_ | refine Ch.app ?_ | (refine Ch.trans ?_ hc1))
    rw [hg5]
    (repeat first | exact Ch.refl _ | refine Ch.upd ?_ | refine Ch.app ?_ | assumption)
  ·refine A3 (A1 (A2 (wF rfl (E5 (E6 (D7 (C8 (A1 (A2 (A0 ?_))))))))))
   (apply F9 (vs := [.int _ _, .int _ _, _, _]) j2; exact Q0; exact Q5; rfl; exact kb; rfl; exact j3)
   (apply D4 (u := .agg [.int _ _, .int _ _, _, _]) j3; exact Q0; exact Q5; rfl; rfl; rfl; exact Q25; exact kb; rfl; exact j2)
   refine A3 (A1 (A9 ?_))
   obtain rfl : i = t.lk.length := by omega
   have T := hI.T
   dsimp only at T
   rw [show Tb.mk t.tm t.nx (t.lk.take t.lk.length) t.sn = ⟨t.tm, t.nx, t.lk, t.sn⟩ from by rw [List.take_length]] at T
   refine E0 (A5 (A7 rfl (by exact Q0) j2 kb rfl) A8) (Ch.app hI.ch) ⟨_, _, W, rfl, ((T.toV (n0 := n + 2) (fun a o => ?_)).keep (Nat.le_refl _) (fun a h1 h2 => ?_)).low (by omega), fun a ha => ?_, by omega⟩
   ·exact hI.ow a (by dsimp only; rw [List.take_length]; exact o)
   ·(simp (disch := (first | omega | assumption)) only [↓appC, ↓updN, ↓updS, ↓app0])
   ·rw [show app _ g a = g a from by (simp (disch := (first | omega | assumption)) only [↓appC, ↓updN, ↓updS, ↓app0])]; exact q5 a ha
 ·skip
  dsimp only at e kl
  subst e
  have hlbm : lb < m := (hI.T.fl lb rfl).1
  have hlx : lb ≠ (n + 4) := (hI.T.fl lb rfl).2
  refine E8 (A2 (A0 ?_))
  refine I6 j6 ?_ ?_ <;> intro h3_0
  ·refine A3 (A1 (A2 (wT rfl (B0 (A1 (A2 (B3 (A2 (A0 ?_)))))))))
   (apply N0 j4; exact Q4; (first | rfl | assumption | exact I2 (i := i) (by omega)); exact j4)
   refine T7 (vs := [.str _, .int _ _, .int _ _, .int _ _, _]) j3 kb j4 (H3 j6 ?_)
   (apply D4 (u := .agg [.str _, .int _ _, .int _ _, .int _ _, _]) j3; exact Q0; exact Q5; rfl; rfl; rfl; exact Q25; exact kb; rfl; exact j2)
   refine A3 (A1 (A2 ?_))
   refine Y1 fun g5 hg5 => ?_
   have k5 : g5 m = some ⟨[[.str (t.lk.getD i Lk0).nm, .int .i64 (t.lk.getD i Lk0).tk, .int .i64 (t.lk.getD i Lk0).hd, .int .i64 (t.lk.getD i Lk0).ex, T.toV fr (nlT (B i) ((t.lk.getD i Lk0).ws.map wtT))]], 5, 29⟩ := by rw [hg5]; exact Q0
   refine A0 (C1 (off := 4) (s := 1) (r := false) j3 kz j3 ?_)
   (apply C5  j2; exact Q0; exact Q5; exact j5)
   refine K9 (o91n fr (B i) (t.lk.getD i Lk0).ws (hN.w i (by omega)) (hW i (by omega))) rfl j5 ?_
   rintro v1 g1 m1 ⟨hk1, hf1, hr1, hl1⟩ hc1 hle1
   have k6 : g1 m = some ⟨[[.str (t.lk.getD i Lk0).nm, .int .i64 (t.lk.getD i Lk0).tk, .int .i64 (t.lk.getD i Lk0).hd, .int .i64 (t.lk.getD i Lk0).ex, T.toV fr (nlT (B i) ((t.lk.getD i Lk0).ws.map wtT))]], 5, 29⟩ := by rw [hr1 m (by omega)]; exact k5
   have kx : g1 (n + 4) = some ⟨[[.int .i64 t.tm, .int .i64 t.nx, .view lb 0 (rwW (t.lk.take i) W).length, (.view (n + 3) 0 t.sn.length)]], 4, 35⟩ := by rw [hr1 _ (by have := hI.T.idn; dsimp only at this; omega), hg5]; exact Q0
   have kl6 : g1 lb = some ⟨rwW (t.lk.take i) W, 5, 29⟩ := by rw [hr1 lb (by omega), hg5]; (simp (disch := (first | omega | assumption)) only [↓appC, ↓updN, ↓updS, ↓app0]); exact kl
   refine C1 (off := 4) (s := 1) (r := false) j3 kz j3 ?_
   (apply D4 (u := v1) j3; exact Q0; (first | rfl | exact List.getElem?_set_self (by assumption)); rfl; exact U2 hk1; exact congrArg List.length (J7 hk1); exact AD hk1; exact kb; exact congrArg (splice _ _) (J7 hk1); exact j2)
   refine A3 (A1 (A0 (C1 (off := 2) (s := 1) (r := false) j3 kz j3 ?_)))
   (apply C5 (v := .view _ _ _) j2; exact Q0; exact Q5; exact j5)
   (apply F9 (vs := [.str _, .int _ _, .int _ _, .int _ _, _]) j2; exact Q0; exact Q5; rfl; exact kb; rfl; exact j3)
   (refine S8 (es := [[.str _, .int _ _, .int _ _, .int _ _, v1]]) j4 kz kb rfl ?_ j3 ?_; focus (show ((v1.cell && true) && true) = true; rw [hk1.cell]; rfl))
   (apply rap (s' := 64)  rfl rfl; exact Q0; exact j2; (first | rfl | (focus (simp only [B5, List.length_take]; omega)) | (focus (simp; done)) | (focus (simp; omega))); exact j2; exact kz; exact BM; exact AC; exact Q16; exact Q16; exact j3)
   refine C1 (off := 2) (s := 1) (r := false) j3 kz j3 ?_
   (apply D4 (u := .view _ _ _) j3; exact Q0; exact Q5; rfl; rfl; rfl; exact Q25; exact kb; rfl; exact j2)
   refine A3 (B7 (A1 ?_))
   refine Y1 fun G hG => ?_
   refine A0 (C3 j3 ?_ ?_ j3 ?_)
   ·exact Q4
   ·exact Q4
   refine B6 j5 (A3 (D1 ?_))
   refine H4 (ih ⟨i + 1, m1 + 1 + 1, .view (m1 + 1) 0 (i + 1), insW W i v1, G⟩ ⟨by dsimp only; omega, ?_, fun x hx => ?_, fun x o => ?_, ?_, ?_, by dsimp only; omega⟩ (by dsimp only; omega)) (by (repeat first | exact LE.nil _ | refine LE.unk _ _ ?_ | refine LE.eq _ _ _ rfl ?_)) (LessH.refl _) (Nat.le_refl _)
   ·have T := hI.T.insLk (k := i) (g := G) (m := m1 + 1 + 1) (by show i ≤ (t.lk.take i).length; omega) (t.lk.getD i Lk0) v1 t.nx (m1 + 1) (by dsimp only; omega) (by dsimp only; omega) ?_ ?_ ?_ ?_ ?_
    ·dsimp only at T
     rw [hti, U1 (by omega)] at T
     exact T
    ·dsimp only; rw [hti]; refine Eq.trans (b := some ⟨[[.int .i64 t.tm, .int .i64 t.nx, .view (m1 + 1) 0 ((rwW (t.lk.take i) W).length + 1), (.view (n + 3) 0 t.sn.length)]], 4, 35⟩) (by rw [hG]; exact Q0) (congrArg (fun z => some (Blk.mk [[.int .i64 t.tm, .int .i64 t.nx, .view (m1 + 1) 0 z, (.view (n + 3) 0 t.sn.length)]] 4 35)) (by first | omega | (focus (simp only [B5, hti, List.length_cons, List.length_nil]; done)) | (focus (simp only [B5, hti, List.length_cons, List.length_nil]; omega))))
    ·dsimp only; refine Eq.trans (b := some ⟨(rwW (t.lk.take i) W ++ [[.str (t.lk.getD i Lk0).nm, .int .i64 (t.lk.getD i Lk0).tk, .int .i64 (t.lk.getD i Lk0).hd, .int .i64 (t.lk.getD i Lk0).ex, v1]]), 5, 29⟩) (by rw [hG]; exact Q0) (congrArg (fun z => some (Blk.mk z 5 29)) ?_)
     rw [show (rwW (t.lk.take i) W).take i = rwW (t.lk.take i) W from List.take_of_length_le (by rw [B5]; omega), show (rwW (t.lk.take i) W).drop i = [] from List.drop_eq_nil_of_le (by rw [B5]; omega)]; rfl
    ·exact hk1.mono fun a ha => by have := hf1 a ha; rw [hG]; (simp (disch := (first | omega | assumption)) only [↓appC, ↓updN, ↓updS, ↓app0])
    ·exact fun a ha => by have := hf1 a ha; exact ⟨by omega, by dsimp only; omega, by omega⟩
    ·exact fun a o h1 h2 => by
      have h3 := hI.T.lt o
      dsimp only at h3 h1 h2 ⊢
      have hal : a ≠ lb := fun e => h2 (by rw [e]; rfl)
      rw [hG]; (simp (disch := (first | omega | assumption)) only [↓appC, ↓updN, ↓updS, ↓app0])
      rw [hr1 a (by omega), hg5]; (simp (disch := (first | omega | assumption)) only [↓appC, ↓updN, ↓updS, ↓app0])
   ·dsimp only
    have hlo := hI.ow lb (.inr (.inl rfl))
    rw [hG]; (simp (disch := (first | omega | assumption)) only [↓appC, ↓updN, ↓updS, ↓app0])
    rw [hr1 x (by omega), hg5]; (simp (disch := (first | omega | assumption)) only [↓appC, ↓updN, ↓updS, ↓app0])
    exact q5 x hx
   ·rcases o with e | e | e | ⟨j, hj, e⟩
    ·omega
    ·cases e; omega
    ·exact hI.ow x (.inr (.inr (.inl e)))
    ·dsimp only at e hj
     unfold insW at e
     split at e
     ·next c => exact hI.ow x (.inr (.inr (.inr ⟨j, by show j < (t.lk.take i).length; omega, e⟩)))
     ·split at e
      ·have := hf1 x e; omega
      ·next c1 c2 => rw [List.length_take] at hj; omega
   ·dsimp only; have hlo := hI.ow lb (.inr (.inl rfl)); have hzz : lb ≠ n + 1 := (by omega); rw [hG]; (simp (disch := (first | omega | assumption)) only [↓appC, ↓updN, ↓updS, ↓app0])
    rw [hr1 _ (by omega), hg5]; (simp (disch := (first | omega | assumption)) only [↓appC, ↓updN, ↓updS, ↓app0])
    exact q4
   ·dsimp only
    refine hI.ch.trans ?_
    rw [hG]
    (repeat first | exact Ch.refl _ | refine Ch.upd ?_ | refine Ch.app ?_ | (refine Ch.trans ?_ hc1))
    rw [hg5]
    (repeat first | exact Ch.refl _ | refine Ch.upd ?_ | refine Ch.app ?_ | assumption)
  ·refine A3 (A1 (A2 (wF rfl (E5 (E6 (D7 (C8 (A1 (A2 (A0 ?_))))))))))
   (apply F9 (vs := [.int _ _, .int _ _, _, _]) j2; exact Q0; exact Q5; rfl; exact kb; rfl; exact j3)
   (apply D4 (u := .agg [.int _ _, .int _ _, _, _]) j3; exact Q0; exact Q5; rfl; rfl; rfl; exact Q25; exact kb; rfl; exact j2)
   refine A3 (A1 (A9 ?_))
   obtain rfl : i = t.lk.length := by omega
   have T := hI.T
   dsimp only at T
   rw [show Tb.mk t.tm t.nx (t.lk.take t.lk.length) t.sn = ⟨t.tm, t.nx, t.lk, t.sn⟩ from by rw [List.take_length]] at T
   refine E0 (A5 (A7 rfl (by exact Q0) j2 kb rfl) A8) (Ch.app hI.ch) ⟨_, _, W, rfl, ((T.toV (n0 := n + 2) (fun a o => ?_)).keep (Nat.le_refl _) (fun a h1 h2 => ?_)).low (by omega), fun a ha => ?_, by omega⟩
   ·exact hI.ow a (by dsimp only; rw [List.take_length]; exact o)
   ·(simp (disch := (first | omega | assumption)) only [↓appC, ↓updN, ↓updS, ↓app0])
   ·rw [show app _ g a = g a from by (simp (disch := (first | omega | assumption)) only [↓appC, ↓updN, ↓updS, ↓app0])]; exact q5 a ha
theorem o49f (t : Tb) (B : Nat → Bool) (fr : Bool) (hN : NilOK t B true false) (hL : t.lk.length ≤ 1000) (hW : ∀ i, i < t.lk.length → (t.lk.getD i Lk0).ws.length ≤ 1048576) (hS : t.sn.length ≤ 1048576) {h : Heap} {n : Nat} :
  OpenM En 49 [.agg [.int .i64 t.tm, .int .i64 t.nx, .sl fr true (lksN B t.lk), .nsl]] h n (fun v g m => ∃ Sl Ss W, v = .agg [.int .i64 t.tm, .int .i64 t.nx, Sl, Ss] ∧ TabV t Sl Ss W g n m ∧ (∀ a, a < n → g a = h a) ∧ n ≤ m) := by
 have hl : (lksN B t.lk).length = t.lk.length := L3 B t.lk
 refine OpenM.of_wp Try.func49 rfl kb ?_
 refine A2 (A0 ?_)
 (refine L7 (u := .agg [.int .i64 t.tm, .int .i64 t.nx, .sl fr true (lksN B t.lk), .nsl]) j3 rfl j3 ?_)
 refine H3 j6 (A3 (A1 (A2 (C2 [0, 1, 0, 4, 0, 16, 48, 127, 0, 511] rfl (by decide +kernel) ?_))))
 refine D6 (off := 0) (s := 1) (r := false) j3 kz j3 ?_
 (apply E1 (v := .int _ _) j2; exact Q0; exact Q5; exact j5)
 refine D6 (off := 1) (s := 1) (r := false) j3 kz j3 ?_
 (apply E1 (v := .int _ _) j2; exact Q0; exact Q5; exact j5)
 refine D6 (off := 3) (s := 1) (r := false) j3 kz j3 ?_
 (apply E1 (v := .nsl) j2; exact Q0; exact Q5; exact j5)
 refine dcl s90z rfl j5 (dbd (cs := [.int _ _, .int _ _, _, _]) j5 (dal j6 ?_))
 (apply dst (u := .agg [.int _ _, .int _ _, _, _]) rfl rfl rfl; exact Q0; exact Q5; rfl; rfl; rfl; exact Q25; exact kb; rfl; rfl; rfl)
 refine B1 10 [3, 3, 0, 0, 1, 0, 1, 0, 1, 0] [(1, 8), (3, 8), (5, 8)] j2 (by decide +kernel) ?_ ?_
 ·(simp [ClearL, ids]; try omega)
 refine A1 (A2 (A2 (A0 (C1 (off := 2) (s := 1) (r := false) j3 kz j3 ?_))))
 (apply C5 (v := .sl _ _ _) j2; exact Q0; exact Q5; exact j5)
 refine H0 rfl rfl rfl j3 (B6 j5 (A3 (A1 (B3 (F0 ?_)))))
 refine wlG fun g0 hg0 => ?_
 refine E9 (fun (a : CpS) => [.unk, .ptr n 0 0, .ptr (n + 1) 0 0, .ptr (n + 2) 0 0, .unk, .unk, .unk, .unk, .unk, .unk, .unk, .unk, .unk, .unk, .unk, .sl fr true (lksN B t.lk), .int .i64 (lksN B t.lk).length, .int .i64 a.i]) (fun (a : CpS) => a.g) (fun (a : CpS) => a.m) (fun (a : CpS) => CpI t (n + 2) n .nsl h a) (fun (a : CpS) => t.lk.length - a.i) ⟨0, (n + 2) + 1, .nsl, fun _ => .nsl, g0⟩ ?_ ?_ ?_ ?_ ?_
 ·refine ⟨Nat.zero_le _, ⟨by dsimp only; omega, ?_, .inl ⟨rfl, rfl⟩, ?_, fun i hi => absurd hi (Nat.not_lt_zero _), nofun, fun a ha => ?_, fun i a hi _ => absurd hi (Nat.not_lt_zero _)⟩, fun a ha => ?_, fun a o => ?_, ?_, ?_, by dsimp only; omega⟩
  ·dsimp only; rw [hg0]; exact Q0
  ·exact .inl ⟨rfl, by rw [hN.s rfl]; rfl⟩
  ·cases ha
  ·dsimp only; rw [hg0]; (simp (disch := (first | omega | assumption)) only [↓appC, ↓updN, ↓updS, ↓app0])
  ·rcases o with e | e | e | ⟨i, hi, e⟩
   ·omega
   ·cases e
   ·cases e
   ·exact absurd hi (Nat.not_lt_zero _)
  ·dsimp only; rw [hg0]; exact Q0
  ·dsimp only; rw [hg0]; (repeat first | exact Ch.refl _ | refine Ch.upd ?_ | refine Ch.app ?_ | assumption)
 ·(repeat first | exact LE.nil _ | refine LE.unk _ _ ?_ | refine LE.eq _ _ _ rfl ?_)
 ·exact LessH.refl _
 ·exact Nat.le_refl _
 intro ⟨i, m, Sl, W, g⟩ hI ih
 have q0 := hI.il
 have q1 := hI.T.kid
 have q2 := hI.T.idn
 have q3 := hI.le
 have q4 := hI.z
 have q5 := hI.fr
 dsimp only at q0 q1 q2 q3 q4 q5 ⊢
 have hti : (t.lk.take i).length = i := by rw [List.length_take]; omega
 rcases hI.T.kl with ⟨e, hz⟩ | ⟨lb, e, kl⟩
 ·skip
  dsimp only at e
  subst e
  have hi0 : i = 0 := by have q := congrArg List.length hz; rw [B5] at q; dsimp only at q; rw [hti] at q; exact q
  refine E8 (A2 (A0 ?_))
  refine I6 j6 ?_ ?_ <;> intro h3_0
  ·refine A3 (A1 (A2 (wT rfl (B0 (A1 (A2 (B3 (A2 (A0 ?_)))))))))
   (apply N0 j4; exact Q4; (first | rfl | assumption | exact I2 (i := i) (by omega)); exact j4)
   refine T7 (vs := [.str _, .int _ _, .int _ _, .int _ _, _]) j3 kb j4 (H3 j6 ?_)
   (apply D4 (u := .agg [.str _, .int _ _, .int _ _, .int _ _, _]) j3; exact Q0; exact Q5; rfl; rfl; rfl; exact Q25; exact kb; rfl; exact j2)
   refine A3 (A1 (A2 ?_))
   refine Y1 fun g5 hg5 => ?_
   have k5 : g5 m = some ⟨[[.str (t.lk.getD i Lk0).nm, .int .i64 (t.lk.getD i Lk0).tk, .int .i64 (t.lk.getD i Lk0).hd, .int .i64 (t.lk.getD i Lk0).ex, T.toV fr (nlT (B i) ((t.lk.getD i Lk0).ws.map wtT))]], 5, 29⟩ := by rw [hg5]; exact Q0
   refine A0 (C1 (off := 4) (s := 1) (r := false) j3 kz j3 ?_)
   (apply C5  j2; exact Q0; exact Q5; exact j5)
   refine K9 (o91n fr (B i) (t.lk.getD i Lk0).ws (hN.w i (by omega)) (hW i (by omega))) rfl j5 ?_
   rintro v1 g1 m1 ⟨hk1, hf1, hr1, hl1⟩ hc1 hle1
   have k6 : g1 m = some ⟨[[.str (t.lk.getD i Lk0).nm, .int .i64 (t.lk.getD i Lk0).tk, .int .i64 (t.lk.getD i Lk0).hd, .int .i64 (t.lk.getD i Lk0).ex, T.toV fr (nlT (B i) ((t.lk.getD i Lk0).ws.map wtT))]], 5, 29⟩ := by rw [hr1 m (by omega)]; exact k5
   have kx : g1 (n + 2) = some ⟨[[.int .i64 t.tm, .int .i64 t.nx, .nsl, .nsl]], 4, 35⟩ := by rw [hr1 _ (by have := hI.T.idn; dsimp only at this; omega), hg5]; exact Q0
   refine C1 (off := 4) (s := 1) (r := false) j3 kz j3 ?_
   (apply D4 (u := v1) j3; exact Q0; (first | rfl | exact List.getElem?_set_self (by assumption)); rfl; exact U2 hk1; exact congrArg List.length (J7 hk1); exact AD hk1; exact kb; exact congrArg (splice _ _) (J7 hk1); exact j2)
   refine A3 (A1 (A0 (C1 (off := 2) (s := 1) (r := false) j3 kz j3 ?_)))
   (apply C5 (v := .nsl) j2; exact Q0; exact Q5; exact j5)
   (apply F9 (vs := [.str _, .int _ _, .int _ _, .int _ _, _]) j2; exact Q0; exact Q5; rfl; exact kb; rfl; exact j3)
   (refine S8 (es := [[.str _, .int _ _, .int _ _, .int _ _, v1]]) j4 kz kb rfl ?_ j3 ?_; focus (show ((v1.cell && true) && true) = true; rw [hk1.cell]; rfl))
   (apply ran (s' := 64)  rfl j3 kz; exact BM; exact AC; exact Q16; exact Q16; exact Q16; exact j3)
   refine C1 (off := 2) (s := 1) (r := false) j3 kz j3 ?_
   (apply D4 (u := .view _ _ _) j3; exact Q0; exact Q5; rfl; rfl; rfl; exact Q25; exact kb; rfl; exact j2)
   refine A3 (B7 (A1 ?_))
   refine Y1 fun G hG => ?_
   refine A0 (C3 j3 ?_ ?_ j3 ?_)
   ·exact Q4
   ·exact Q4
   refine B6 j5 (A3 (D1 ?_))
   refine H4 (ih ⟨i + 1, m1 + 1 + 1, .view (m1 + 1) 0 (i + 1), insW W i v1, G⟩ ⟨by dsimp only; omega, ?_, fun x hx => ?_, fun x o => ?_, ?_, ?_, by dsimp only; omega⟩ (by dsimp only; omega)) (by (repeat first | exact LE.nil _ | refine LE.unk _ _ ?_ | refine LE.eq _ _ _ rfl ?_)) (LessH.refl _) (Nat.le_refl _)
   ·have T := hI.T.insLk (k := i) (g := G) (m := m1 + 1 + 1) (by show i ≤ (t.lk.take i).length; omega) (t.lk.getD i Lk0) v1 t.nx (m1 + 1) (by dsimp only; omega) (by dsimp only; omega) ?_ ?_ ?_ ?_ ?_
    ·dsimp only at T
     rw [hti, U1 (by omega)] at T
     exact T
    ·dsimp only; rw [hti]; refine Eq.trans (b := some ⟨[[.int .i64 t.tm, .int .i64 t.nx, .view (m1 + 1) 0 1, .nsl]], 4, 35⟩) (by rw [hG]; exact Q0) (congrArg (fun z => some (Blk.mk [[.int .i64 t.tm, .int .i64 t.nx, .view (m1 + 1) 0 z, .nsl]] 4 35)) (by first | omega | (focus (simp only [B5, hti, List.length_cons, List.length_nil]; done)) | (focus (simp only [B5, hti, List.length_cons, List.length_nil]; omega))))
    ·dsimp only; refine Eq.trans (b := some ⟨[[.str (t.lk.getD i Lk0).nm, .int .i64 (t.lk.getD i Lk0).tk, .int .i64 (t.lk.getD i Lk0).hd, .int .i64 (t.lk.getD i Lk0).ex, v1]], 5, 29⟩) (by rw [hG]; exact Q0) (congrArg (fun z => some (Blk.mk z 5 29)) ?_)
     rw [hi0]; rfl
    ·exact hk1.mono fun a ha => by have := hf1 a ha; rw [hG]; (simp (disch := (first | omega | assumption)) only [↓appC, ↓updN, ↓updS, ↓app0])
    ·exact fun a ha => by have := hf1 a ha; exact ⟨by omega, by dsimp only; omega, by omega⟩
    ·exact fun a o h1 h2 => by
      have h3 := hI.T.lt o
      dsimp only at h3 h1 h2 ⊢
      skip
      rw [hG]; (simp (disch := (first | omega | assumption)) only [↓appC, ↓updN, ↓updS, ↓app0])
      rw [hr1 a (by omega), hg5]; (simp (disch := (first | omega | assumption)) only [↓appC, ↓updN, ↓updS, ↓app0])
   ·dsimp only
    skip
    rw [hG]; (simp (disch := (first | omega | assumption)) only [↓appC, ↓updN, ↓updS, ↓app0])
    rw [hr1 x (by omega), hg5]; (simp (disch := (first | omega | assumption)) only [↓appC, ↓updN, ↓updS, ↓app0])
    exact q5 x hx
   ·rcases o with e | e | e | ⟨j, hj, e⟩
    ·omega
    ·cases e; omega
    ·exact hI.ow x (.inr (.inr (.inl e)))
    ·dsimp only at e hj
     unfold insW at e
     split at e
     ·next c => exact hI.ow x (.inr (.inr (.inr ⟨j, by show j < (t.lk.take i).length; omega, e⟩)))
     ·split at e
      ·have := hf1 x e; omega
      ·next c1 c2 => rw [List.length_take] at hj; omega
   ·dsimp only; skip; rw [hG]; (simp (disch := (first | omega | assumption)) only [↓appC, ↓updN, ↓updS, ↓app0])
    rw [hr1 _ (by omega), hg5]; (simp (disch := (first | omega | assumption)) only [↓appC, ↓updN, ↓updS, ↓app0])
    exact q4
   ·dsimp only
    refine hI.ch.trans ?_
    rw [hG]
    (repeat first | exact Ch.refl _ | refine Ch.upd ?_ | refine Ch.app ?_ | (refine Ch.trans ?_ hc1))
    rw [hg5]
    (repeat first | exact Ch.refl _ | refine Ch.upd ?_ | refine Ch.app ?_ | assumption)
  ·refine A3 (A1 (A2 (wF rfl (E5 (E6 (D7 (C8 (A1 (A2 (A0 ?_))))))))))
   (apply F9 (vs := [.int _ _, .int _ _, _, _]) j2; exact Q0; exact Q5; rfl; exact kb; rfl; exact j3)
   (apply D4 (u := .agg [.int _ _, .int _ _, _, _]) j3; exact Q0; exact Q5; rfl; rfl; rfl; exact Q25; exact kb; rfl; exact j2)
   refine A3 (A1 (A9 ?_))
   obtain rfl : i = t.lk.length := by omega
   have T := hI.T
   dsimp only at T
   rw [show Tb.mk t.tm t.nx (t.lk.take t.lk.length) t.sn = ⟨t.tm, t.nx, t.lk, t.sn⟩ from by rw [List.take_length]] at T
   refine E0 (A5 (A7 rfl (by exact Q0) j2 kb rfl) A8) (Ch.app hI.ch) ⟨_, _, W, rfl, ((T.toV (n0 := n + 2) (fun a o => ?_)).keep (Nat.le_refl _) (fun a h1 h2 => ?_)).low (by omega), fun a ha => ?_, by omega⟩
   ·exact hI.ow a (by dsimp only; rw [List.take_length]; exact o)
   ·(simp (disch := (first | omega | assumption)) only [↓appC, ↓updN, ↓updS, ↓app0])
   ·rw [show app _ g a = g a from by (simp (disch := (first | omega | assumption)) only [↓appC, ↓updN, ↓updS, ↓app0])]; exact q5 a ha
 ·skip
  dsimp only at e kl
  subst e
  have hlbm : lb < m := (hI.T.fl lb rfl).1
  have hlx : lb ≠ (n + 2) := (hI.T.fl lb rfl).2
  refine E8 (A2 (A0 ?_))
  refine I6 j6 ?_ ?_ <;> intro h3_0
  ·refine A3 (A1 (A2 (wT rfl (B0 (A1 (A2 (B3 (A2 (A0 ?_)))))))))
   (apply N0 j4; exact Q4; (first | rfl | assumption | exact I2 (i := i) (by omega)); exact j4)
   refine T7 (vs := [.str _, .int _ _, .int _ _, .int _ _, _]) j3 kb j4 (H3 j6 ?_)
   (apply D4 (u := .agg [.str _, .int _ _, .int _ _, .int _ _, _]) j3; exact Q0; exact Q5; rfl; rfl; rfl; exact Q25; exact kb; rfl; exact j2)
   refine A3 (A1 (A2 ?_))
   refine Y1 fun g5 hg5 => ?_
   have k5 : g5 m = some ⟨[[.str (t.lk.getD i Lk0).nm, .int .i64 (t.lk.getD i Lk0).tk, .int .i64 (t.lk.getD i Lk0).hd, .int .i64 (t.lk.getD i Lk0).ex, T.toV fr (nlT (B i) ((t.lk.getD i Lk0).ws.map wtT))]], 5, 29⟩ := by rw [hg5]; exact Q0
   refine A0 (C1 (off := 4) (s := 1) (r := false) j3 kz j3 ?_)
   (apply C5  j2; exact Q0; exact Q5; exact j5)
   refine K9 (o91n fr (B i) (t.lk.getD i Lk0).ws (hN.w i (by omega)) (hW i (by omega))) rfl j5 ?_
   rintro v1 g1 m1 ⟨hk1, hf1, hr1, hl1⟩ hc1 hle1
   have k6 : g1 m = some ⟨[[.str (t.lk.getD i Lk0).nm, .int .i64 (t.lk.getD i Lk0).tk, .int .i64 (t.lk.getD i Lk0).hd, .int .i64 (t.lk.getD i Lk0).ex, T.toV fr (nlT (B i) ((t.lk.getD i Lk0).ws.map wtT))]], 5, 29⟩ := by rw [hr1 m (by omega)]; exact k5
   have kx : g1 (n + 2) = some ⟨[[.int .i64 t.tm, .int .i64 t.nx, .view lb 0 (rwW (t.lk.take i) W).length, .nsl]], 4, 35⟩ := by rw [hr1 _ (by have := hI.T.idn; dsimp only at this; omega), hg5]; exact Q0
   have kl6 : g1 lb = some ⟨rwW (t.lk.take i) W, 5, 29⟩ := by rw [hr1 lb (by omega), hg5]; (simp (disch := (first | omega | assumption)) only [↓appC, ↓updN, ↓updS, ↓app0]); exact kl
   refine C1 (off := 4) (s := 1) (r := false) j3 kz j3 ?_
   (apply D4 (u := v1) j3; exact Q0; (first | rfl | exact List.getElem?_set_self (by assumption)); rfl; exact U2 hk1; exact congrArg List.length (J7 hk1); exact AD hk1; exact kb; exact congrArg (splice _ _) (J7 hk1); exact j2)
   refine A3 (A1 (A0 (C1 (off := 2) (s := 1) (r := false) j3 kz j3 ?_)))
   (apply C5 (v := .view _ _ _) j2; exact Q0; exact Q5; exact j5)
   (apply F9 (vs := [.str _, .int _ _, .int _ _, .int _ _, _]) j2; exact Q0; exact Q5; rfl; exact kb; rfl; exact j3)
   (refine S8 (es := [[.str _, .int _ _, .int _ _, .int _ _, v1]]) j4 kz kb rfl ?_ j3 ?_; focus (show ((v1.cell && true) && true) = true; rw [hk1.cell]; rfl))
   (apply rap (s' := 64)  rfl rfl; exact Q0; exact j2; (first | rfl | (focus (simp only [B5, List.length_take]; omega)) | (focus (simp; done)) | (focus (simp; omega))); exact j2; exact kz; exact BM; exact AC; exact Q16; exact Q16; exact j3)
   refine C1 (off := 2) (s := 1) (r := false) j3 kz j3 ?_
   (apply D4 (u := .view _ _ _) j3; exact Q0; exact Q5; rfl; rfl; rfl; exact Q25; exact kb; rfl; exact j2)
   refine A3 (B7 (A1 ?_))
   refine Y1 fun G hG => ?_
   refine A0 (C3 j3 ?_ ?_ j3 ?_)
   ·exact Q4
   ·exact Q4
   refine B6 j5 (A3 (D1 ?_))
   refine H4 (ih ⟨i + 1, m1 + 1 + 1, .view (m1 + 1) 0 (i + 1), insW W i v1, G⟩ ⟨by dsimp only; omega, ?_, fun x hx => ?_, fun x o => ?_, ?_, ?_, by dsimp only; omega⟩ (by dsimp only; omega)) (by (repeat first | exact LE.nil _ | refine LE.unk _ _ ?_ | refine LE.eq _ _ _ rfl ?_)) (LessH.refl _) (Nat.le_refl _)
   ·have T := hI.T.insLk (k := i) (g := G) (m := m1 + 1 + 1) (by show i ≤ (t.lk.take i).length; omega) (t.lk.getD i Lk0) v1 t.nx (m1 + 1) (by dsimp only; omega) (by dsimp only; omega) ?_ ?_ ?_ ?_ ?_
    ·dsimp only at T
     rw [hti, U1 (by omega)] at T
     exact T
    ·dsimp only; rw [hti]; refine Eq.trans (b := some ⟨[[.int .i64 t.tm, .int .i64 t.nx, .view (m1 + 1) 0 ((rwW (t.lk.take i) W).length + 1), .nsl]], 4, 35⟩) (by rw [hG]; exact Q0) (congrArg (fun z => some (Blk.mk [[.int .i64 t.tm, .int .i64 t.nx, .view (m1 + 1) 0 z, .nsl]] 4 35)) (by first | omega | (focus (simp only [B5, hti, List.length_cons, List.length_nil]; done)) | (focus (simp only [B5, hti, List.length_cons, List.length_nil]; omega))))
    ·dsimp only; refine Eq.trans (b := some ⟨(rwW (t.lk.take i) W ++ [[.str (t.lk.getD i Lk0).nm, .int .i64 (t.lk.getD i Lk0).tk, .int .i64 (t.lk.getD i Lk0).hd, .int .i64 (t.lk.getD i Lk0).ex, v1]]), 5, 29⟩) (by rw [hG]; exact Q0) (congrArg (fun z => some (Blk.mk z 5 29)) ?_)
     rw [show (rwW (t.lk.take i) W).take i = rwW (t.lk.take i) W from List.take_of_length_le (by rw [B5]; omega), show (rwW (t.lk.take i) W).drop i = [] from List.drop_eq_nil_of_le (by rw [B5]; omega)]; rfl
    ·exact hk1.mono fun a ha => by have := hf1 a ha; rw [hG]; (simp (disch := (first | omega | assumption)) only [↓appC, ↓updN, ↓updS, ↓app0])
    ·exact fun a ha => by have := hf1 a ha; exact ⟨by omega, by dsimp only; omega, by omega⟩
    ·exact fun a o h1 h2 => by
      have h3 := hI.T.lt o
      dsimp only at h3 h1 h2 ⊢
      have hal : a ≠ lb := fun e => h2 (by rw [e]; rfl)
      rw [hG]; (simp (disch := (first | omega | assumption)) only [↓appC, ↓updN, ↓updS, ↓app0])
      rw [hr1 a (by omega), hg5]; (simp (disch := (first | omega | assumption)) only [↓appC, ↓updN, ↓updS, ↓app0])
   ·dsimp only
    have hlo := hI.ow lb (.inr (.inl rfl))
    rw [hG]; (simp (disch := (first | omega | assumption)) only [↓appC, ↓updN, ↓updS, ↓app0])
    rw [hr1 x (by omega), hg5]; (simp (disch := (first | omega | assumption)) only [↓appC, ↓updN, ↓updS, ↓app0])
    exact q5 x hx
   ·rcases o with e | e | e | ⟨j, hj, e⟩
    ·omega
    ·cases e; omega
    ·exact hI.ow x (.inr (.inr (.inl e)))
    ·dsimp only at e hj
     unfold insW at e
     split at e
     ·next c => exact hI.ow x (.inr (.inr (.inr ⟨j, by show j < (t.lk.take i).length; omega, e⟩)))
     ·split at e
      ·have := hf1 x e; omega
      ·next c1 c2 => rw [List.length_take] at hj; omega
   ·dsimp only; have hlo := hI.ow lb (.inr (.inl rfl)); have hzz : lb ≠ n + 1 := (by omega); rw [hG]; (simp (disch := (first | omega | assumption)) only [↓appC, ↓updN, ↓updS, ↓app0])
    rw [hr1 _ (by omega), hg5]; (simp (disch := (first | omega | assumption)) only [↓appC, ↓updN, ↓updS, ↓app0])
    exact q4
   ·dsimp only
    refine hI.ch.trans ?_
    rw [hG]
    (repeat first | exact Ch.refl _ | refine Ch.upd ?_ | refine Ch.app ?_ | (refine Ch.trans ?_ hc1))
    rw [hg5]
    (repeat first | exact Ch.refl _ | refine Ch.upd ?_ | refine Ch.app ?_ | assumption)
  ·refine A3 (A1 (A2 (wF rfl (E5 (E6 (D7 (C8 (A1 (A2 (A0 ?_))))))))))
   (apply F9 (vs := [.int _ _, .int _ _, _, _]) j2; exact Q0; exact Q5; rfl; exact kb; rfl; exact j3)
   (apply D4 (u := .agg [.int _ _, .int _ _, _, _]) j3; exact Q0; exact Q5; rfl; rfl; rfl; exact Q25; exact kb; rfl; exact j2)
   refine A3 (A1 (A9 ?_))
   obtain rfl : i = t.lk.length := by omega
   have T := hI.T
   dsimp only at T
   rw [show Tb.mk t.tm t.nx (t.lk.take t.lk.length) t.sn = ⟨t.tm, t.nx, t.lk, t.sn⟩ from by rw [List.take_length]] at T
   refine E0 (A5 (A7 rfl (by exact Q0) j2 kb rfl) A8) (Ch.app hI.ch) ⟨_, _, W, rfl, ((T.toV (n0 := n + 2) (fun a o => ?_)).keep (Nat.le_refl _) (fun a h1 h2 => ?_)).low (by omega), fun a ha => ?_, by omega⟩
   ·exact hI.ow a (by dsimp only; rw [List.take_length]; exact o)
   ·(simp (disch := (first | omega | assumption)) only [↓appC, ↓updN, ↓updS, ↓app0])
   ·rw [show app _ g a = g a from by (simp (disch := (first | omega | assumption)) only [↓appC, ↓updN, ↓updS, ↓app0])]; exact q5 a ha
end Go.Proofs.Ytknnniaoboaghaa
