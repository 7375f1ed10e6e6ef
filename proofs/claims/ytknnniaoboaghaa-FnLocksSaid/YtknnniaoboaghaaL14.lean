import Derived.Test.YtknnniaoboaghaaL13
namespace Go.Proofs.Ytknnniaoboaghaa
open Go.V
set_option linter.unusedVariables false
set_option linter.unusedSimpArgs false
set_option maxRecDepth 20000
set_option maxHeartbeats 4000000
theorem U7 {L : List Lk} {i : Nat} (h : i < L.length) : insL (L.take i) i (L.getD i Lk0) = L.take (i + 1) := by
 unfold insL
 rw [List.take_take, Nat.min_self, List.drop_eq_nil_of_le (by rw [List.length_take]; omega), List.take_add_one]
 simp [h]
theorem U8 {fr b : Bool} {rows : List (List V.T)} : (T.toV fr (nlT b rows)).cell = true := by cases b <;> rfl
theorem U9 {h : Heap} {v : V} {rows : List (List V)} {sz ty : Nat} (k : IsL h v rows sz ty) : v.known = true := by
 rcases k with ⟨rfl, _⟩ | ⟨id, pre, rfl, _⟩ <;> rfl
theorem J4 {h : Heap} {v : V} {rows : List (List V)} {sz ty : Nat} (k : IsL h v rows sz ty) : v.cells = [v] := by
 rcases k with ⟨rfl, _⟩ | ⟨id, pre, rfl, _⟩ <;> rfl
theorem AU {h : Heap} {v : V} {rows : List (List V)} {sz ty : Nat} (k : IsL h v rows sz ty) : v.cells.all V.cell = true := by
 rcases k with ⟨rfl, _⟩ | ⟨id, pre, rfl, _⟩ <;> rfl
structure CpS where
 i : Nat
 m : Nat
 Sl : V
 W : Nat → V
 g : Heap
structure CpI (t : Tb) (bx n : Nat) (Ss : V) (h0 : Heap) (a : CpS) : Prop where
 il : a.i ≤ t.lk.length
 T : TabM ⟨t.tm, t.nx, t.lk.take a.i, t.sn⟩ bx a.Sl Ss a.W a.g a.m
 fr : ∀ x, x < n → a.g x = h0 x
 ow : ∀ x, OwnT bx a.Sl Ss a.W (t.lk.take a.i).length x → n + 2 ≤ x
 z : a.g (n + 1) = some ⟨[[.int .i64 0, .int .i64 0, .nsl, .nsl]], 4, 35⟩
 ch : Ch h0 a.g
 le : n + 2 ≤ a.m
theorem s90z  : Pure En 90 [.one .nsl] [.one .nsl] := by
 refine Pure.of_wp Try.func90 rfl kb ?_
 refine A2 (A0 (Z4 j5 (A3 (A1 (A2 (A2 (A0 (rmN j5 (rnil (c := true) j6 (A3 (A1 (wT rfl ?_))))))))))))
 refine A2 (A0 (Z4 j5 (A3 (A1 (B1 (B0 ?_))))))
 exact fin rfl rfl
theorem o49t (t : Tb) (B : Nat → Bool) (fr : Bool) (hN : NilOK t B true true) (hL : t.lk.length ≤ 1000) (hW : ∀ i, i < t.lk.length → (t.lk.getD i Lk0).ws.length ≤ 1048576) (hS : t.sn.length ≤ 1048576) {h : Heap} {n : Nat} :
  OpenM En 49 [.agg [.int .i64 t.tm, .int .i64 t.nx, .sl fr true (lksN B t.lk), .sl fr true (t.sn.map Sn.T)]] h n (fun v g m => ∃ Sl Ss W, v = .agg [.int .i64 t.tm, .int .i64 t.nx, Sl, Ss] ∧ TabV t Sl Ss W g n m ∧ (∀ a, a < n → g a = h a) ∧ n ≤ m) := by
 have hl : (lksN B t.lk).length = t.lk.length := K5 B t.lk
 refine OpenM.of_wp Try.func49 rfl kb ?_
 refine A2 (A0 ?_)
 (refine K7 (u := .agg [.int .i64 t.tm, .int .i64 t.nx, .sl fr true (lksN B t.lk), .sl fr true (t.sn.map Sn.T)]) j3 rfl j3 ?_)
 refine H3 j6 (A3 (A1 (A2 (B9 [0, 1, 0, 4, 0, 16, 48, 127, 0, 511] rfl (by decide +kernel) ?_))))
 refine C9 (off := 0) (s := 1) (r := false) j3 kz j3 ?_
 (apply D5 (v := .int _ _) j2; exact Q0; exact Q5; exact j5)
 refine C9 (off := 1) (s := 1) (r := false) j3 kz j3 ?_
 (apply D5 (v := .int _ _) j2; exact Q0; exact Q5; exact j5)
 refine C9 (off := 3) (s := 1) (r := false) j3 kz j3 ?_
 (apply D5 (v := .sl _ _ _) j2; exact Q0; exact Q5; exact j5)
 (apply dfr (o90 fr t.sn hS) rfl j2; (intro x hx; simp only [List.mem_cons, List.not_mem_nil, or_false] at hx; subst hx; rfl); rfl; (exact flatSn t.sn); exact List.cons_ne_nil _ _; exact j3)
 refine dbd (cs := [.int _ _, .int _ _, _, _]) j5 (dal j6 ?_)
 (apply dst (u := .agg [.int _ _, .int _ _, _, _]) rfl rfl rfl; exact Q0; exact Q5; rfl; rfl; rfl; exact Q27; exact kb; rfl; rfl; rfl)
 refine B3 10 [3, 3, 0, 3, 1, 0, 1, 0, 1, 0] [(1, 6), (3, 6), (1, 8), (3, 8), (5, 8), (6, 8)] j2 (by decide +kernel) ?_ ?_
 ·(simp [ClearL, ids]; try omega)
 refine A1 (A2 (A2 (A0 (C2 (off := 2) (s := 1) (r := false) j3 kz j3 ?_))))
 (apply C6 (v := .sl _ _ _) j2; exact Q0; exact Q5; exact j5)
 refine G7 rfl rfl rfl j3 (B5 j5 (A3 (A1 (B4 (F0 ?_)))))
 refine wlG fun g0 hg0 => ?_
 refine E4 (fun (a : CpS) => [.unk, .ptr n 0 0, .ptr (n + 1) 0 0, .ptr (n + 4) 0 0, .unk, .unk, .unk, .unk, .unk, .unk, .unk, .unk, .unk, .unk, .unk, .sl fr true (lksN B t.lk), .int .i64 (lksN B t.lk).length, .int .i64 a.i]) (fun (a : CpS) => a.g) (fun (a : CpS) => a.m) (fun (a : CpS) => CpI t (n + 4) n (.view (n + 3) 0 t.sn.length) h a) (fun (a : CpS) => t.lk.length - a.i) ⟨0, (n + 4) + 1, .nsl, fun _ => .nsl, g0⟩ ?_ ?_ ?_ ?_ ?_
 ·refine ⟨Nat.zero_le _, ⟨by dsimp only; omega, ?_, .inl ⟨rfl, rfl⟩, ?_, fun i hi => absurd hi (Nat.not_lt_zero _), nofun, fun a ha => ?_, fun i a hi _ => absurd hi (Nat.not_lt_zero _)⟩, fun a ha => ?_, fun a o => ?_, ?_, ?_, by dsimp only; omega⟩
  ·dsimp only; rw [hg0]; exact Q0
  ·exact .inr ⟨n + 3, by rw [List.length_map], by dsimp only; rw [hg0]; exact Q0⟩
  ·cases ha; exact ⟨by dsimp only; omega, by omega, nofun⟩
  ·dsimp only; rw [hg0]; (simp (disch := (first | omega | assumption)) only [↓appC, ↓updN, ↓updS, ↓app0])
  ·rcases o with e | e | e | ⟨i, hi, e⟩
   ·omega
   ·cases e
   ·cases e; omega
   ·exact absurd hi (Nat.not_lt_zero _)
  ·dsimp only; rw [hg0]; exact Q0
  ·dsimp only; rw [hg0]; (repeat first | exact Ch.refl _ | refine Ch.upd ?_ | refine Ch.app ?_ | assumption)
 ·(repeat first | exact LE.nil _ | refine LE.unk _ _ ?_ | refine LE.eq _ _ _ rfl ?_)
 ·exact LessH.refl _
 ·exact Nat.le_refl _
 intro ⟨i, m, Sl, W, g⟩ hI ih
 have q0 := hI.il
 have q1 := hI.T.kid
 have q2 := hI.T.idn
 have q3 := hI.le
 have q4 := hI.z
 have q5 := hI.fr
 dsimp only at q0 q1 q2 q3 q4 q5 ⊢
 have hti : (t.lk.take i).length = i := by rw [List.length_take]; omega
 rcases hI.T.kl with ⟨e, hz⟩ | ⟨lb, e, kl⟩
 ·skip
  dsimp only at e
  subst e
  have hi0 : i = 0 := by have q := congrArg List.length hz; rw [B6] at q; dsimp only at q; rw [hti] at q; exact q
  refine E8 (A2 (A0 ?_))
  refine H9 j6 ?_ ?_ <;> intro h3_0
  ·refine A3 (A1 (A2 (wT rfl (B2 (A1 (A2 (B4 (A2 (A0 ?_)))))))))
   (apply K8 j4; exact Q4; (first | rfl | assumption | exact I1 (i := i) (by omega)); exact j4)
   refine N4 (vs := [.str _, .int _ _, .int _ _, .int _ _, _]) j3 kb j4 (H3 j6 ?_)
   (apply D6 (u := .agg [.str _, .int _ _, .int _ _, .int _ _, _]) j3; exact Q0; exact Q5; rfl; rfl; rfl; exact Q27; exact kb; rfl; exact j2)
   refine A3 (A1 (A2 ?_))
   refine Z2 fun g5 hg5 => ?_
   have k5 : g5 m = some ⟨[[.str (t.lk.getD i Lk0).nm, .int .i64 (t.lk.getD i Lk0).tk, .int .i64 (t.lk.getD i Lk0).hd, .int .i64 (t.lk.getD i Lk0).ex, T.toV fr (nlT (B i) ((t.lk.getD i Lk0).ws.map wtT))]], 5, 29⟩ := by rw [hg5]; exact Q0
   refine A0 (C2 (off := 4) (s := 1) (r := false) j3 kz j3 ?_)
   (apply C6  j2; exact Q0; exact Q5; exact j5)
   refine L4 (o91n fr (B i) (t.lk.getD i Lk0).ws (hN.w i (by omega)) (hW i (by omega))) rfl j5 ?_
   rintro v1 g1 m1 ⟨hk1, hf1, hr1, hl1⟩ hc1 hle1
   have k6 : g1 m = some ⟨[[.str (t.lk.getD i Lk0).nm, .int .i64 (t.lk.getD i Lk0).tk, .int .i64 (t.lk.getD i Lk0).hd, .int .i64 (t.lk.getD i Lk0).ex, T.toV fr (nlT (B i) ((t.lk.getD i Lk0).ws.map wtT))]], 5, 29⟩ := by rw [hr1 m (by omega)]; exact k5
   have kx : g1 (n + 4) = some ⟨[[.int .i64 t.tm, .int .i64 t.nx, .nsl, (.view (n + 3) 0 t.sn.length)]], 4, 35⟩ := by rw [hr1 _ (by have := hI.T.idn; dsimp only at this; omega), hg5]; exact Q0
   refine C2 (off := 4) (s := 1) (r := false) j3 kz j3 ?_
   (apply D6 (u := v1) j3; exact Q0; (first | rfl | exact List.getElem?_set_self (by assumption)); rfl; exact U9 hk1; exact congrArg List.length (J4 hk1); exact AU hk1; exact kb; exact congrArg (splice _ _) (J4 hk1); exact j2)
   refine A3 (A1 (A0 (C2 (off := 2) (s := 1) (r := false) j3 kz j3 ?_)))
   (apply C6 (v := .nsl) j2; exact Q0; exact Q5; exact j5)
   (apply F7 (vs := [.str _, .int _ _, .int _ _, .int _ _, _]) j2; exact Q0; exact Q5; rfl; exact kb; rfl; exact j3)
   (refine T9 (es := [[.str _, .int _ _, .int _ _, .int _ _, v1]]) j4 kz kb rfl ?_ j3 ?_; focus (show ((v1.cell && true) && true) = true; rw [hk1.cell]; rfl))
   (apply ran (s' := 64)  rfl j3 kz; exact S4; exact AT; exact Q19; exact Q19; exact Q19; exact j3)
   refine C2 (off := 2) (s := 1) (r := false) j3 kz j3 ?_
   (apply D6 (u := .view _ _ _) j3; exact Q0; exact Q5; rfl; rfl; rfl; exact Q27; exact kb; rfl; exact j2)
   refine A3 (C0 (A1 ?_))
   refine Z2 fun G hG => ?_
   refine A0 (D0 j3 ?_ ?_ j3 ?_)
   ·exact Q4
   ·exact Q4
   refine B5 j5 (A3 (E3 ?_))
   refine I4 (ih ⟨i + 1, m1 + 1 + 1, .view (m1 + 1) 0 (i + 1), insW W i v1, G⟩ ⟨by dsimp only; omega, ?_, fun x hx => ?_, fun x o => ?_, ?_, ?_, by dsimp only; omega⟩ (by dsimp only; omega)) (by (repeat first | exact LE.nil _ | refine LE.unk _ _ ?_ | refine LE.eq _ _ _ rfl ?_)) (LessH.refl _) (Nat.le_refl _)
   ·have T := hI.T.insLk (k := i) (g := G) (m := m1 + 1 + 1) (by show i ≤ (t.lk.take i).length; omega) (t.lk.getD i Lk0) v1 t.nx (m1 + 1) (by dsimp only; omega) (by dsimp only; omega) ?_ ?_ ?_ ?_ ?_
    ·dsimp only at T
     rw [hti, U7 (by omega)] at T
     exact T
    ·dsimp only; rw [hti]; refine Eq.trans (b := some ⟨[[.int .i64 t.tm, .int .i64 t.nx, .view (m1 + 1) 0 1, (.view (n + 3) 0 t.sn.length)]], 4, 35⟩) (by rw [hG]; exact Q0) (congrArg (fun z => some (Blk.mk [[.int .i64 t.tm, .int .i64 t.nx, .view (m1 + 1) 0 z, (.view (n + 3) 0 t.sn.length)]] 4 35)) (by first | omega | (focus (simp only [B6, hti, List.length_cons, List.length_nil]; done)) | (focus (simp only [B6, hti, List.length_cons, List.length_nil]; omega))))
    ·dsimp only; refine Eq.trans (b := some ⟨[[.str (t.lk.getD i Lk0).nm, .int .i64 (t.lk.getD i Lk0).tk, .int .i64 (t.lk.getD i Lk0).hd, .int .i64 (t.lk.getD i Lk0).ex, v1]], 5, 29⟩) (by rw [hG]; exact Q0) (congrArg (fun z => some (Blk.mk z 5 29)) ?_)
     rw [hi0]; rfl
    ·exact hk1.mono fun a ha => by have := hf1 a ha; rw [hG]; (simp (disch := (first | omega | assumption)) only [↓appC, ↓updN, ↓updS, ↓app0])
    ·exact fun a ha => by have := hf1 a ha; exact ⟨by omega, by dsimp only; omega, by omega⟩
    ·exact fun a o h1 h2 => by
      have h3 := hI.T.lt o
      dsimp only at h3 h1 h2 ⊢
      skip
      rw [hG]; (simp (disch := (first | omega | assumption)) only [↓appC, ↓updN, ↓updS, ↓app0])
      rw [hr1 a (by omega), hg5]; (simp (disch := (first | omega | assumption)) only [↓appC, ↓updN, ↓updS, ↓app0])
   ·dsimp only
    skip
    rw [hG]; (simp (disch := (first | omega | assumption)) only [↓appC, ↓updN, ↓updS, ↓app0])
    rw [hr1 x (by omega), hg5]; (simp (disch := (first | omega | assumption)) only [↓appC, ↓updN, ↓updS, ↓app0])
    exact q5 x hx
   ·rcases o with e | e | e | ⟨j, hj, e⟩
    ·omega
    ·cases e; omega
    ·exact hI.ow x (.inr (.inr (.inl e)))
    ·dsimp only at e hj
     unfold insW at e
     split at e
     ·next c => exact hI.ow x (.inr (.inr (.inr ⟨j, by show j < (t.lk.take i).length; omega, e⟩)))
     ·split at e
      ·have := hf1 x e; omega
      ·next c1 c2 => rw [List.length_take] at hj; omega
   ·dsimp only; skip; rw [hG]; (simp (disch := (first | omega | assumption)) only [↓appC, ↓updN, ↓updS, ↓app0])
    rw [hr1 _ (by omega), hg5]; (simp (disch := (first | omega | assumption)) only [↓appC, ↓updN, ↓updS, ↓app0])
    exact q4
   ·dsimp only
    refine hI.ch.trans ?_
    rw [hG]
    (repeat first | exact Ch.refl _ | refine Ch.upd ?_ | refine Ch.app ?_ | (refine Ch.trans ?_ hc1))
    rw [hg5]
    (repeat first | exact Ch.refl _ | refine Ch.upd ?_ | refine Ch.app ?_ | assumption)
  ·refine A3 (A1 (A2 (wF rfl (E5 (E6 (D2 (C5 (A1 (A2 (A0 ?_))))))))))
   (apply F7 (vs := [.int _ _, .int _ _, _, _]) j2; exact Q0; exact Q5; rfl; exact kb; rfl; exact j3)
   (apply D6 (u := .agg [.int _ _, .int _ _, _, _]) j3; exact Q0; exact Q5; rfl; rfl; rfl; exact Q27; exact kb; rfl; exact j2)
   refine A3 (A1 (B1 ?_))
   obtain rfl : i = t.lk.length := by omega
   have T := hI.T
   dsimp only at T
   rw [show Tb.mk t.tm t.nx (t.lk.take t.lk.length) t.sn = ⟨t.tm, t.nx, t.lk, t.sn⟩ from by rw [List.take_length]] at T
   refine E0 (A6 (A7 rfl (by exact Q0) j2 kb rfl) A9) (Ch.app hI.ch) ⟨_, _, W, rfl, ((T.toV (n0 := n + 2) (fun a o => ?_)).keep (Nat.le_refl _) (fun a h1 h2 => ?_)).low (by omega), fun a ha => ?_, by omega⟩
   ·exact hI.ow a (by dsimp only; rw [List.take_length]; exact o)
   ·(simp (disch := (first | omega | assumption)) only [↓appC, ↓updN, ↓updS, ↓app0])
   ·rw [show app _ g a = g a from by (simp (disch := (first | omega | assumption)) only [↓appC, ↓updN, ↓updS, ↓app0])]; exact q5 a ha
 ·skip
  dsimp only at e kl
  subst e
  have hlbm : lb < m := (hI.T.fl lb rfl).1
  have hlx : lb ≠ (n + 4) := (hI.T.fl lb rfl).2
  refine E8 (A2 (A0 ?_))
  refine H9 j6 ?_ ?_ <;> intro h3_0
  ·refine A3 (A1 (A2 (wT rfl (B2 (A1 (A2 (B4 (A2 (A0 ?_)))))))))
   (apply K8 j4; exact Q4; (first | rfl | assumption | exact I1 (i := i) (by omega)); exact j4)
   refine N4 (vs := [.str _, .int _ _, .int _ _, .int _ _, _]) j3 kb j4 (H3 j6 ?_)
   (apply D6 (u := .agg [.str _, .int _ _, .int _ _, .int _ _, _]) j3; exact Q0; exact Q5; rfl; rfl; rfl; exact Q27; exact kb; rfl; exact j2)
   refine A3 (A1 (A2 ?_))
   refine Z2 fun g5 hg5 => ?_
   have k5 : g5 m = some ⟨[[.str (t.lk.getD i Lk0).nm, .int .i64 (t.lk.getD i Lk0).tk, .int .i64 (t.lk.getD i Lk0).hd, .int .i64 (t.lk.getD i Lk0).ex, T.toV fr (nlT (B i) ((t.lk.getD i Lk0).ws.map wtT))]], 5, 29⟩ := by rw [hg5]; exact Q0
   refine A0 (C2 (off := 4) (s := 1) (r := false) j3 kz j3 ?_)
   (apply C6  j2; exact Q0; exact Q5; exact j5)
   refine L4 (o91n fr (B i) (t.lk.getD i Lk0).ws (hN.w i (by omega)) (hW i (by omega))) rfl j5 ?_
   rintro v1 g1 m1 ⟨hk1, hf1, hr1, hl1⟩ hc1 hle1
   have k6 : g1 m = some ⟨[[.str (t.lk.getD i Lk0).nm, .int .i64 (t.lk.getD i Lk0).tk, .int .i64 (t.lk.getD i Lk0).hd, .int .i64 (t.lk.getD i Lk0).ex, T.toV fr (nlT (B i) ((t.lk.getD i Lk0).ws.map wtT))]], 5, 29⟩ := by rw [hr1 m (by omega)]; exact k5
   have kx : g1 (n + 4) = some ⟨[[.int .i64 t.tm, .int .i64 t.nx, .view lb 0 (rwW (t.lk.take i) W).length, (.view (n + 3) 0 t.sn.length)]], 4, 35⟩ := by rw [hr1 _ (by have := hI.T.idn; dsimp only at this; omega), hg5]; exact Q0
   have kl6 : g1 lb = some ⟨rwW (t.lk.take i) W, 5, 29⟩ := by rw [hr1 lb (by omega), hg5]; (simp (disch := (first | omega | assumption)) only [↓appC, ↓updN, ↓updS, ↓app0]); exact kl
   refine C2 (off := 4) (s := 1) (r := false) j3 kz j3 ?_
   (apply D6 (u := v1) j3; exact Q0; (first | rfl | exact List.getElem?_set_self (by assumption)); rfl; exact U9 hk1; exact congrArg List.length (J4 hk1); exact AU hk1; exact kb; exact congrArg (splice _ _) (J4 hk1); exact j2)
   refine A3 (A1 (A0 (C2 (off := 2) (s := 1) (r := false) j3 kz j3 ?_)))
   (apply C6 (v := .view _ _ _) j2; exact Q0; exact Q5; exact j5)
   (apply F7 (vs := [.str _, .int _ _, .int _ _, .int _ _, _]) j2; exact Q0; exact Q5; rfl; exact kb; rfl; exact j3)
   (refine T9 (es := [[.str _, .int _ _, .int _ _, .int _ _, v1]]) j4 kz kb rfl ?_ j3 ?_; focus (show ((v1.cell && true) && true) = true; rw [hk1.cell]; rfl))
   (apply rap (s' := 64)  rfl rfl; exact Q0; exact j2; (first | rfl | (focus (simp only [B6, List.length_take]; omega)) | (focus (simp; done)) | (focus (simp; omega))); exact j2; exact kz; exact S4; exact AT; exact Q19; exact Q19; exact j3)
   refine C2 (off := 2) (s := 1) (r := false) j3 kz j3 ?_
   (apply D6 (u := .view _ _ _) j3; exact Q0; exact Q5; rfl; rfl; rfl; exact Q27; exact kb; rfl; exact j2)
   refine A3 (C0 (A1 ?_))
   refine Z2 fun G hG => ?_
   refine A0 (D0 j3 ?_ ?_ j3 ?_)
   ·exact Q4
   ·exact Q4
   refine B5 j5 (A3 (E3 ?_))
   refine I4 (ih ⟨i + 1, m1 + 1 + 1, .view (m1 + 1) 0 (i + 1), insW W i v1, G⟩ ⟨by dsimp only; omega, ?_, fun x hx => ?_, fun x o => ?_, ?_, ?_, by dsimp only; omega⟩ (by dsimp only; omega)) (by (repeat first | exact LE.nil _ | refine LE.unk _ _ ?_ | refine LE.eq _ _ _ rfl ?_)) (LessH.refl _) (Nat.le_refl _)
   ·have T := hI.T.insLk (k := i) (g := G) (m := m1 + 1 + 1) (by show i ≤ (t.lk.take i).length; omega) (t.lk.getD i Lk0) v1 t.nx (m1 + 1) (by dsimp only; omega) (by dsimp only; omega) ?_ ?_ ?_ ?_ ?_
    ·dsimp only at T
     rw [hti, U7 (by omega)] at T
     exact T
    ·dsimp only; rw [hti]; refine Eq.trans (b := some ⟨[[.int .i64 t.tm, .int .i64 t.nx, .view (m1 + 1) 0 ((rwW (t.lk.take i) W).length + 1), (.view (n + 3) 0 t.sn.length)]], 4, 35⟩) (by rw [hG]; exact Q0) (congrArg (fun z => some (Blk.mk [[.int .i64 t.tm, .int .i64 t.nx, .view (m1 + 1) 0 z, (.view (n + 3) 0 t.sn.length)]] 4 35)) (by first | omega | (focus (simp only [B6, hti, List.length_cons, List.length_nil]; done)) | (focus (simp only [B6, hti, List.length_cons, List.length_nil]; omega))))
    ·dsimp only; refine Eq.trans (b := some ⟨(rwW (t.lk.take i) W ++ [[.str (t.lk.getD i Lk0).nm, .int .i64 (t.lk.getD i Lk0).tk, .int .i64 (t.lk.getD i Lk0).hd, .int .i64 (t.lk.getD i Lk0).ex, v1]]), 5, 29⟩) (by rw [hG]; exact Q0) (congrArg (fun z => some (Blk.mk z 5 29)) ?_)
     rw [show (rwW (t.lk.take i) W).take i = rwW (t.lk.take i) W from List.take_of_length_le (by rw [B6]; omega), show (rwW (t.lk.take i) W).drop i = [] from List.drop_eq_nil_of_le (by rw [B6]; omega)]; rfl
    ·exact hk1.mono fun a ha => by have := hf1 a ha; rw [hG]; (simp (disch := (first | omega | assumption)) only [↓appC, ↓updN, ↓updS, ↓app0])
    ·exact fun a ha => by have := hf1 a ha; exact ⟨by omega, by dsimp only; omega, by omega⟩
    ·exact fun a o h1 h2 => by
      have h3 := hI.T.lt o
      dsimp only at h3 h1 h2 ⊢
      have hal : a ≠ lb := fun e => h2 (by rw [e]; rfl)
      rw [hG]; (simp (disch := (first | omega | assumption)) only [↓appC, ↓updN, ↓updS, ↓app0])
      rw [hr1 a (by omega), hg5]; (simp (disch := (first | omega | assumption)) only [↓appC, ↓updN, ↓updS, ↓app0])
   ·dsimp only
    have hlo := hI.ow lb (.inr (.inl rfl))
    rw [hG]; (simp (disch := (first | omega | assumption)) only [↓appC, ↓updN, ↓updS, ↓app0])
    rw [hr1 x (by omega), hg5]; (simp (disch := (first | omega | assumption)) only [↓appC, ↓updN, ↓updS, ↓app0])
    exact q5 x hx
   ·rcases o with e | e | e | ⟨j, hj, e⟩
    ·omega
    ·cases e; omega
    ·exact hI.ow x (.inr (.inr (.inl e)))
    ·dsimp only at e hj
     unfold insW at e
     split at e
     ·next c => exact hI.ow x (.inr (.inr (.inr ⟨j, by show j < (t.lk.take i).length; omega, e⟩)))
     ·split at e
      ·have := hf1 x e; omega
      ·next c1 c2 => rw [List.length_take] at hj; omega
   ·dsimp only; have hlo := hI.ow lb (.inr (.inl rfl)); have hzz : lb ≠ n + 1 := (by omega); rw [hG]; (simp (disch := (first | omega | assumption)) only [↓appC, ↓updN, ↓updS, ↓app0])
    rw [hr1 _ (by omega), hg5]; (simp (disch := (first | omega | assumption)) only [↓appC, ↓updN, ↓updS, ↓app0])
    exact q4
   ·dsimp only
    refine hI.ch.trans ?_
    rw [hG]
    (repeat first | exact Ch.refl _ | refine Ch.upd ?_ | refine Ch.app ?_ | (refine Ch.trans ?_ hc1))
    rw [hg5]
    (repeat first | exact Ch.refl _ | refine Ch.upd ?_ | refine Ch.app ?_ | assumption)
  ·refine A3 (A1 (A2 (wF rfl (E5 (E6 (D2 (C5 (A1 (A2 (A0 ?_))))))))))
   (apply F7 (vs := [.int _ _, .int _ _, _, _]) j2; exact Q0; exact Q5; rfl; exact kb; rfl; exact j3)
   (apply D6 (u := .agg [.int _ _, .int _ _, _, _]) j3; exact Q0; exact Q5; rfl; rfl; rfl; exact Q27; exact kb; rfl; exact j2)
   refine A3 (A1 (B1 ?_))
   obtain rfl : i = t.lk.length := by omega
   have T := hI.T
   dsimp only at T
   rw [show Tb.mk t.tm t.nx (t.lk.take t.lk.length) t.sn = ⟨t.tm, t.nx, t.lk, t.sn⟩ from by rw [List.take_length]] at T
   refine E0 (A6 (A7 rfl (by exact Q0) j2 kb rfl) A9) (Ch.app hI.ch) ⟨_, _, W, rfl, ((T.toV (n0 := n + 2) (fun a o => ?_)).keep (Nat.le_refl _) (fun a h1 h2 => ?_)).low (by omega), fun a ha => ?_, by omega⟩
   ·exact hI.ow a (by dsimp only; rw [List.take_length]; exact o)
   ·(simp (disch := (first | omega | assumption)) only [↓appC, ↓updN, ↓updS, ↓app0])
   ·rw [show app _ g a = g a from by (simp (disch := (first | omega | assumption)) only [↓appC, ↓updN, ↓updS, ↓app0])]; exact q5 a ha
theorem o49f (t : Tb) (B : Nat → Bool) (fr : Bool) (hN : NilOK t B true false) (hL : t.lk.length ≤ 1000) (hW : ∀ i, i < t.lk.length → (t.lk.getD i Lk0).ws.length ≤ 1048576) (hS : t.sn.length ≤ 1048576) {h : Heap} {n : Nat} :
  OpenM En 49 [.agg [.int .i64 t.tm, .int .i64 t.nx, .sl fr true (lksN B t.lk), .nsl]] h n (fun v g m => ∃ Sl Ss W, v = .agg [.int .i64 t.tm, .int .i64 t.nx, Sl, Ss] ∧ TabV t Sl Ss W g n m ∧ (∀ a, a < n → g a = h a) ∧ n ≤ m) := by
 have hl : (lksN B t.lk).length = t.lk.length := K5 B t.lk
 refine OpenM.of_wp Try.func49 rfl kb ?_
 refine A2 (A0 ?_)
 (refine K7 (u := .agg [.int .i64 t.tm, .int .i64 t.nx, .sl fr true (lksN B t.lk), .nsl]) j3 rfl j3 ?_)
 refine H3 j6 (A3 (A1 (A2 (B9 [0, 1, 0, 4, 0, 16, 48, 127, 0, 511] rfl (by decide +kernel) ?_))))
 refine C9 (off := 0) (s := 1) (r := false) j3 kz j3 ?_
 (apply D5 (v := .int _ _) j2; exact Q0; exact Q5; exact j5)
 refine C9 (off := 1) (s := 1) (r := false) j3 kz j3 ?_
 (apply D5 (v := .int _ _) j2; exact Q0; exact Q5; exact j5)
 refine C9 (off := 3) (s := 1) (r := false) j3 kz j3 ?_
 (apply D5 (v := .nsl) j2; exact Q0; exact Q5; exact j5)
 refine dcl s90z rfl j5 (dbd (cs := [.int _ _, .int _ _, _, _]) j5 (dal j6 ?_))
 (apply dst (u := .agg [.int _ _, .int _ _, _, _]) rfl rfl rfl; exact Q0; exact Q5; rfl; rfl; rfl; exact Q27; exact kb; rfl; rfl; rfl)
 refine B3 10 [3, 3, 0, 0, 1, 0, 1, 0, 1, 0] [(1, 8), (3, 8), (5, 8)] j2 (by decide +kernel) ?_ ?_
 ·(simp [ClearL, ids]; try omega)
 refine A1 (A2 (A2 (A0 (C2 (off := 2) (s := 1) (r := false) j3 kz j3 ?_))))
 (apply C6 (v := .sl _ _ _) j2; exact Q0; exact Q5; exact j5)
 refine G7 rfl rfl rfl j3 (B5 j5 (A3 (A1 (B4 (F0 ?_)))))
 refine wlG fun g0 hg0 => ?_
 refine E4 (fun (a : CpS) => [.unk, .ptr n 0 0, .ptr (n + 1) 0 0, .ptr (n + 2) 0 0, .unk, .unk, .unk, .unk, .unk, .unk, .unk, .unk, .unk, .unk, .unk, .sl fr true (lksN B t.lk), .int .i64 (lksN B t.lk).length, .int .i64 a.i]) (fun (a : CpS) => a.g) (fun (a : CpS) => a.m) (fun (a : CpS) => CpI t (n + 2) n .nsl h a) (fun (a : CpS) => t.lk.length - a.i) ⟨0, (n + 2) + 1, .nsl, fun _ => .nsl, g0⟩ ?_ ?_ ?_ ?_ ?_
 ·refine ⟨Nat.zero_le _, ⟨by dsimp only; omega, ?_, .inl ⟨rfl, rfl⟩, ?_, fun i hi => absurd hi (Nat.not_lt_zero _), nofun, fun a ha => ?_, fun i a hi _ => absurd hi (Nat.not_lt_zero _)⟩, fun a ha => ?_, fun a o => ?_, ?_, ?_, by dsimp only; omega⟩
  ·dsimp only; rw [hg0]; exact Q0
  ·exact .inl ⟨rfl, by rw [hN.s rfl]; rfl⟩
  ·cases ha
  ·dsimp only; rw [hg0]; (simp (disch := (first | omega | assumption)) only [↓appC, ↓updN, ↓updS, ↓app0])
  ·rcases o with e | e | e | ⟨i, hi, e⟩
   ·omega
   ·cases e
   ·cases e
   ·exact absurd hi (Nat.not_lt_zero _)
  ·dsimp only; rw [hg0]; exact Q0
  ·dsimp only; rw [hg0]; (repeat first | exact Ch.refl _ | refine Ch.upd ?_ | refine Ch.app ?_ | assumption)
 ·(repeat first | exact LE.nil _ | refine LE.unk _ _ ?_ | refine LE.eq _ _ _ rfl ?_)
 ·exact LessH.refl _
 ·exact Nat.le_refl _
 intro ⟨i, m, Sl, W, g⟩ hI ih
 have q0 := hI.il
 have q1 := hI.T.kid
 have q2 := hI.T.idn
 have q3 := hI.le
 have q4 := hI.z
 have q5 := hI.fr
 dsimp only at q0 q1 q2 q3 q4 q5 ⊢
 have hti : (t.lk.take i).length = i := by rw [List.length_take]; omega
 rcases hI.T.kl with ⟨e, hz⟩ | ⟨lb, e, kl⟩
 ·skip
  dsimp only at e
  subst e
  have hi0 : i = 0 := by have q := congrArg List.length hz; rw [B6] at q; dsimp only at q; rw [hti] at q; exact q
  refine E8 (A2 (A0 ?_))
  refine H9 j6 ?_ ?_ <;> intro h3_0
  ·refine A3 (A1 (A2 (wT rfl (B2 (A1 (A2 (B4 (A2 (A0 ?_)))))))))
   (apply K8 j4; exact Q4; (first | rfl | assumption | exact I1 (i := i) (by omega)); exact j4)
   refine N4 (vs := [.str _, .int _ _, .int _ _, .int _ _, _]) j3 kb j4 (H3 j6 ?_)
   (apply D6 (u := .agg [.str _, .int _ _, .int _ _, .int _ _, _]) j3; exact Q0; exact Q5; rfl; rfl; rfl; exact Q27; exact kb; rfl; exact j2)
   refine A3 (A1 (A2 ?_))
   refine Z2 fun g5 hg5 => ?_
   have k5 : g5 m = some ⟨[[.str (t.lk.getD i Lk0).nm, .int .i64 (t.lk.getD i Lk0).tk, .int .i64 (t.lk.getD i Lk0).hd, .int .i64 (t.lk.getD i Lk0).ex, T.toV fr (nlT (B i) ((t.lk.getD i Lk0).ws.map wtT))]], 5, 29⟩ := by rw [hg5]; exact Q0
   refine A0 (C2 (off := 4) (s := 1) (r := false) j3 kz j3 ?_)
   (apply C6  j2; exact Q0; exact Q5; exact j5)
   refine L4 (o91n fr (B i) (t.lk.getD i Lk0).ws (hN.w i (by omega)) (hW i (by omega))) rfl j5 ?_
   rintro v1 g1 m1 ⟨hk1, hf1, hr1, hl1⟩ hc1 hle1
   have k6 : g1 m = some ⟨[[.str (t.lk.getD i Lk0).nm, .int .i64 (t.lk.getD i Lk0).tk, .int .i64 (t.lk.getD i Lk0).hd, .int .i64 (t.lk.getD i Lk0).ex, T.toV fr (nlT (B i) ((t.lk.getD i Lk0).ws.map wtT))]], 5, 29⟩ := by rw [hr1 m (by omega)]; exact k5
   have kx : g1 (n + 2) = some ⟨[[.int .i64 t.tm, .int .i64 t.nx, .nsl, .nsl]], 4, 35⟩ := by rw [hr1 _ (by have := hI.T.idn; dsimp only at this; omega), hg5]; exact Q0
   refine C2 (off := 4) (s := 1) (r := false) j3 kz j3 ?_
   (apply D6 (u := v1) j3; exact Q0; (first | rfl | exact List.getElem?_set_self (by assumption)); rfl; exact U9 hk1; exact congrArg List.length (J4 hk1); exact AU hk1; exact kb; exact congrArg (splice _ _) (J4 hk1); exact j2)
   refine A3 (A1 (A0 (C2 (off := 2) (s := 1) (r := false) j3 kz j3 ?_)))
   (apply C6 (v := .nsl) j2; exact Q0; exact Q5; exact j5)
   (apply F7 (vs := [.str _, .int _ _, .int _ _, .int _ _, _]) j2; exact Q0; exact Q5; rfl; exact kb; rfl; exact j3)
   (refine T9 (es := [[.str _, .int _ _, .int _ _, .int _ _, v1]]) j4 kz kb rfl ?_ j3 ?_; focus (show ((v1.cell && true) && true) = true; rw [hk1.cell]; rfl))
   (apply ran (s' := 64)  rfl j3 kz; exact S4; exact AT; exact Q19; exact Q19; exact Q19; exact j3)
   refine C2 (off := 2) (s := 1) (r := false) j3 kz j3 ?_
   (apply D6 (u := .view _ _ _) j3; exact Q0; exact Q5; rfl; rfl; rfl; exact Q27; exact kb; rfl; exact j2)
   refine A3 (C0 (A1 ?_))
   refine Z2 fun G hG => ?_
   refine A0 (D0 j3 ?_ ?_ j3 ?_)
   ·exact Q4
   ·exact Q4
   refine B5 j5 (A3 (E3 ?_))
   refine I4 (ih ⟨i + 1, m1 + 1 + 1, .view (m1 + 1) 0 (i + 1), insW W i v1, G⟩ ⟨by dsimp only; omega, ?_, fun x hx => ?_, fun x o => ?_, ?_, ?_, by dsimp only; omega⟩ (by dsimp only; omega)) (by (repeat first | exact LE.nil _ | refine LE.unk _ _ ?_ | refine LE.eq _ _ _ rfl ?_)) (LessH.refl _) (Nat.le_refl _)
   ·have T := hI.T.insLk (k := i) (g := G) (m := m1 + 1 + 1) (by show i ≤ (t.lk.take i).length; omega) (t.lk.getD i Lk0) v1 t.nx (m1 + 1) (by dsimp only; omega) (by dsimp only; omega) ?_ ?_ ?_ ?_ ?_
    ·dsimp only at T
     rw [hti, U7 (by omega)] at T
     exact T
    ·dsimp only; rw [hti]; refine Eq.trans (b := some ⟨[[.int .i64 t.tm, .int .i64 t.nx, .view (m1 + 1) 0 1, .nsl]], 4, 35⟩) (by rw [hG]; exact Q0) (congrArg (fun z => some (Blk.mk [[.int .i64 t.tm, .int .i64 t.nx, .view (m1 + 1) 0 z, .nsl]] 4 35)) (by first | omega | (focus (simp only [B6, hti, List.length_cons, List.length_nil]; done)) | (focus (simp only [B6, hti, List.length_cons, List.length_nil]; omega))))
    ·dsimp only; refine Eq.trans (b := some ⟨[[.str (t.lk.getD i Lk0).nm, .int .i64 (t.lk.getD i Lk0).tk, .int .i64 (t.lk.getD i Lk0).hd, .int .i64 (t.lk.getD i Lk0).ex, v1]], 5, 29⟩) (by rw [hG]; exact Q0) (congrArg (fun z => some (Blk.mk z 5 29)) ?_)
     rw [hi0]; rfl
    ·exact hk1.mono fun a ha => by have := hf1 a ha; rw [hG]; (simp (disch := (first | omega | assumption)) only [↓appC, ↓updN, ↓updS, ↓app0])
    ·exact fun a ha => by have := hf1 a ha; exact ⟨by omega, by dsimp only; omega, by omega⟩
    ·exact fun a o h1 h2 => by
      have h3 := hI.T.lt o
      dsimp only at h3 h1 h2 ⊢
      skip
      rw [hG]; (simp (disch := (first | omega | assumption)) only [↓appC, ↓updN, ↓updS, ↓app0])
      rw [hr1 a (by omega), hg5]; (simp (disch := (first | omega | assumption)) only [↓appC, ↓updN, ↓updS, ↓app0])
   ·dsimp only
    skip
    rw [hG]; (simp (disch := (first | omega | assumption)) only [↓appC, ↓updN, ↓updS, ↓app0])
    rw [hr1 x (by omega), hg5]; (simp (disch := (first | omega | assumption)) only [↓appC, ↓updN, ↓updS, ↓app0])
    exact q5 x hx
   ·rcases o with e | e | e | ⟨j, hj, e⟩
    ·omega
    ·cases e; omega
    ·exact hI.ow x (.inr (.inr (.inl e)))
    ·dsimp only at e hj
     unfold insW at e
     split at e
     ·next c => exact hI.ow x (.inr (.inr (.inr ⟨j, by show j < (t.lk.take i).length; omega, e⟩)))
     ·split at e
      ·have := hf1 x e; omega
      ·next c1 c2 => rw [List.length_take] at hj; omega
   ·dsimp only; skip; rw [hG]; (simp (disch := (first | omega | assumption)) only [↓appC, ↓updN, ↓updS, ↓app0])
    rw [hr1 _ (by omega), hg5]; (simp (disch := (first | omega | assumption)) only [↓appC, ↓updN, ↓updS, ↓app0])
    exact q4
   ·dsimp only
    refine hI.ch.trans ?_
    rw [hG]
    (repeat first | exact Ch.refl _ | refine Ch.upd ?_ | refine Ch.app ?_ | (refine Ch.trans ?_ hc1))
    rw [hg5]
    (repeat first | exact Ch.refl _ | refine Ch.upd ?_ | refine Ch.app ?_ | assumption)
  ·refine A3 (A1 (A2 (wF rfl (E5 (E6 (D2 (C5 (A1 (A2 (A0 ?_))))))))))
   (apply F7 (vs := [.int _ _, .int _ _, _, _]) j2; exact Q0; exact Q5; rfl; exact kb; rfl; exact j3)
   (apply D6 (u := .agg [.int _ _, .int _ _, _, _]) j3; exact Q0; exact Q5; rfl; rfl; rfl; exact Q27; exact kb; rfl; exact j2)
   refine A3 (A1 (B1 ?_))
   obtain rfl : i = t.lk.length := by omega
   have T := hI.T
   dsimp only at T
   rw [show Tb.mk t.tm t.nx (t.lk.take t.lk.length) t.sn = ⟨t.tm, t.nx, t.lk, t.sn⟩ from by rw [List.take_length]] at T
   refine E0 (A6 (A7 rfl (by exact Q0) j2 kb rfl) A9) (Ch.app hI.ch) ⟨_, _, W, rfl, ((T.toV (n0 := n + 2) (fun a o => ?_)).keep (Nat.le_refl _) (fun a h1 h2 => ?_)).low (by omega), fun a ha => ?_, by omega⟩
   ·exact hI.ow a (by dsimp only; rw [List.take_length]; exact o)
   ·(simp (disch := (first | omega | assumption)) only [↓appC, ↓updN, ↓updS, ↓app0])
   ·rw [show app _ g a = g a from by (simp (disch := (first | omega | assumption)) only [↓appC, ↓updN, ↓updS, ↓app0])]; exact q5 a ha
 ·skip
  dsimp only at e kl
  subst e
  have hlbm : lb < m := (hI.T.fl lb rfl).1
  have hlx : lb ≠ (n + 2) := (hI.T.fl lb rfl).2
  refine E8 (A2 (A0 ?_))
  refine H9 j6 ?_ ?_ <;> intro h3_0
  ·refine A3 (A1 (A2 (wT rfl (B2 (A1 (A2 (B4 (A2 (A0 ?_)))))))))
   (apply K8 j4; exact Q4; (first | rfl | assumption | exact I1 (i := i) (by omega)); exact j4)
   refine N4 (vs := [.str _, .int _ _, .int _ _, .int _ _, _]) j3 kb j4 (H3 j6 ?_)
   (apply D6 (u := .agg [.str _, .int _ _, .int _ _, .int _ _, _]) j3; exact Q0; exact Q5; rfl; rfl; rfl; exact Q27; exact kb; rfl; exact j2)
   refine A3 (A1 (A2 ?_))
   refine Z2 fun g5 hg5 => ?_
   have k5 : g5 m = some ⟨[[.str (t.lk.getD i Lk0).nm, .int .i64 (t.lk.getD i Lk0).tk, .int .i64 (t.lk.getD i Lk0).hd, .int .i64 (t.lk.getD i Lk0).ex, T.toV fr (nlT (B i) ((t.lk.getD i Lk0).ws.map wtT))]], 5, 29⟩ := by rw [hg5]; exact Q0
   refine A0 (C2 (off := 4) (s := 1) (r := false) j3 kz j3 ?_)
   (apply C6  j2; exact Q0; exact Q5; exact j5)
   refine L4 (o91n fr (B i) (t.lk.getD i Lk0).ws (hN.w i (by omega)) (hW i (by omega))) rfl j5 ?_
   rintro v1 g1 m1 ⟨hk1, hf1, hr1, hl1⟩ hc1 hle1
   have k6 : g1 m = some ⟨[[.str (t.lk.getD i Lk0).nm, .int .i64 (t.lk.getD i Lk0).tk, .int .i64 (t.lk.getD i Lk0).hd, .int .i64 (t.lk.getD i Lk0).ex, T.toV fr (nlT (B i) ((t.lk.getD i Lk0).ws.map wtT))]], 5, 29⟩ := by rw [hr1 m (by omega)]; exact k5
   have kx : g1 (n + 2) = some ⟨[[.int .i64 t.tm, .int .i64 t.nx, .view lb 0 (rwW (t.lk.take i) W).length, .nsl]], 4, 35⟩ := by rw [hr1 _ (by have := hI.T.idn; dsimp only at this; omega), hg5]; exact Q0
   have kl6 : g1 lb = some ⟨rwW (t.lk.take i) W, 5, 29⟩ := by rw [hr1 lb (by omega), hg5]; (simp (disch := (first | omega | assumption)) only [↓appC, ↓updN, ↓updS, ↓app0]); exact kl
   refine C2 (off := 4) (s := 1) (r := false) j3 kz j3 ?_
   (apply D6 (u := v1) j3; exact Q0; (first | rfl | exact List.getElem?_set_self (by assumption)); rfl; exact U9 hk1; exact congrArg List.length (J4 hk1); exact AU hk1; exact kb; exact congrArg (splice _ _) (J4 hk1); exact j2)
   refine A3 (A1 (A0 (C2 (off := 2) (s := 1) (r := false) j3 kz j3 ?_)))
   (apply C6 (v := .view _ _ _) j2; exact Q0; exact Q5; exact j5)
   (apply F7 (vs := [.str _, .int _ _, .int _ _, .int _ _, _]) j2; exact Q0; exact Q5; rfl; exact kb; rfl; exact j3)
   (refine T9 (es := [[.str _, .int _ _, .int _ _, .int _ _, v1]]) j4 kz kb rfl ?_ j3 ?_; focus (show ((v1.cell && true) && true) = true; rw [hk1.cell]; rfl))
   (apply rap (s' := 64)  rfl rfl; exact Q0; exact j2; (first | rfl | (focus (simp only [B6, List.length_take]; omega)) | (focus (simp; done)) | (focus (simp; omega))); exact j2; exact kz; exact S4; exact AT; exact Q19; exact Q19; exact j3)
   refine C2 (off := 2) (s := 1) (r := false) j3 kz j3 ?_
   (apply D6 (u := .view _ _ _) j3; exact Q0; exact Q5; rfl; rfl; rfl; exact Q27; exact kb; rfl; exact j2)
   refine A3 (C0 (A1 ?_))
   refine Z2 fun G hG => ?_
   refine A0 (D0 j3 ?_ ?_ j3 ?_)
   ·exact Q4
   ·exact Q4
   refine B5 j5 (A3 (E3 ?_))
   refine I4 (ih ⟨i + 1, m1 + 1 + 1, .view (m1 + 1) 0 (i + 1), insW W i v1, G⟩ ⟨by dsimp only; omega, ?_, fun x hx => ?_, fun x o => ?_, ?_, ?_, by dsimp only; omega⟩ (by dsimp only; omega)) (by (repeat first | exact LE.nil _ | refine LE.unk _ _ ?_ | refine LE.eq _ _ _ rfl ?_)) (LessH.refl _) (Nat.le_refl _)
   ·have T := hI.T.insLk (k := i) (g := G) (m := m1 + 1 + 1) (by show i ≤ (t.lk.take i).length; omega) (t.lk.getD i Lk0) v1 t.nx (m1 + 1) (by dsimp only; omega) (by dsimp only; omega) ?_ ?_ ?_ ?_ ?_
    ·dsimp only at T
     rw [hti, U7 (by omega)] at T
     exact T
    ·dsimp only; rw [hti]; refine Eq.trans (b := some ⟨[[.int .i64 t.tm, .int .i64 t.nx, .view (m1 + 1) 0 ((rwW (t.lk.take i) W).length + 1), .nsl]], 4, 35⟩) (by rw [hG]; exact Q0) (congrArg (fun z => some (Blk.mk [[.int .i64 t.tm, .int .i64 t.nx, .view (m1 + 1) 0 z, .nsl]] 4 35)) (by first | omega | (focus (simp only [B6, hti, List.length_cons, List.length_nil]; done)) | (focus (simp only [B6, hti, List.length_cons, List.length_nil]; omega))))
    ·dsimp only; refine Eq.trans (b := some ⟨(rwW (t.lk.take i) W ++ [[.str (t.lk.getD i Lk0).nm, .int .i64 (t.lk.getD i Lk0).tk, .int .i64 (t.lk.getD i Lk0).hd, .int .i64 (t.lk.getD i Lk0).ex, v1]]), 5, 29⟩) (by rw [hG]; exact Q0) (congrArg (fun z => some (Blk.mk z 5 29)) ?_)
     rw [show (rwW (t.lk.take i) W).take i = rwW (t.lk.take i) W from List.take_of_length_le (by rw [B6]; omega), show (rwW (t.lk.take i) W).drop i = [] from List.drop_eq_nil_of_le (by rw [B6]; omega)]; rfl
    ·exact hk1.mono fun a ha => by have := hf1 a ha; rw [hG]; (simp (disch := (first | omega | assumption)) only [↓appC, ↓updN, ↓updS, ↓app0])
    ·exact fun a ha => by have := hf1 a ha; exact ⟨by omega, by dsimp only; omega, by omega⟩
    ·exact fun a o h1 h2 => by
      have h3 := hI.T.lt o
      dsimp only at h3 h1 h2 ⊢
      have hal : a ≠ lb := fun e => h2 (by rw [e]; rfl)
      rw [hG]; (simp (disch := (first | omega | assumption)) only [↓appC, ↓updN, ↓updS, ↓app0])
      rw [hr1 a (by omega), hg5]; (simp (disch := (first | omega | assumption)) only [↓appC, ↓updN, ↓updS, ↓app0])
   ·dsimp only
    have hlo := hI.ow lb (.inr (.inl rfl))
    rw [hG]; (simp (disch := (first | omega | assumption)) only [↓appC, ↓updN, ↓updS, ↓app0])
    rw [hr1 x (by omega), hg5]; (simp (disch := (first | omega | assumption)) only [↓appC, ↓updN, ↓updS, ↓app0])
    exact q5 x hx
   ·rcases o with e | e | e | ⟨j, hj, e⟩
    ·omega
    ·cases e; omega
    ·exact hI.ow x (.inr (.inr (.inl e)))
    ·dsimp only at e hj
     unfold insW at e
     split at e
     ·next c => exact hI.ow x (.inr (.inr (.inr ⟨j, by show j < (t.lk.take i).length; omega, e⟩)))
     ·split at e
      ·have := hf1 x e; omega
      ·next c1 c2 => rw [List.length_take] at hj; omega
   ·dsimp only; have hlo := hI.ow lb (.inr (.inl rfl)); have hzz : lb ≠ n + 1 := (by omega); rw [hG]; (simp (disch := (first | omega | assumption)) only [↓appC, ↓updN, ↓updS, ↓app0])
    rw [hr1 _ (by omega), hg5]; (simp (disch := (first | omega | assumption)) only [↓appC, ↓updN, ↓updS, ↓app0])
    exact q4
   ·dsimp only
    refine hI.ch.trans ?_
    rw [hG]
    (repeat first | exact Ch.refl _ | refine Ch.upd ?_ | refine Ch.app ?_ | (refine Ch.trans ?_ hc1))
    rw [hg5]
    (repeat first | exact Ch.refl _ | refine Ch.upd ?_ | refine Ch.app ?_ | assumption)
  ·refine A3 (A1 (A2 (wF rfl (E5 (E6 (D2 (C5 (A1 (A2 (A0 ?_))))))))))
   (apply F7 (vs := [.int _ _, .int _ _, _, _]) j2; exact Q0; exact Q5; rfl; exact kb; rfl; exact j3)
   (apply D6 (u := .agg [.int _ _, .int _ _, _, _]) j3; exact Q0; exact Q5; rfl; rfl; rfl; exact Q27; exact kb; rfl; exact j2)
   refine A3 (A1 (B1 ?_))
   obtain rfl : i = t.lk.length := by omega
   have T := hI.T
   dsimp only at T
   rw [show Tb.mk t.tm t.nx (t.lk.take t.lk.length) t.sn = ⟨t.tm, t.nx, t.lk, t.sn⟩ from by rw [List.take_length]] at T
   refine E0 (A6 (A7 rfl (by exact Q0) j2 kb rfl) A9) (Ch.app hI.ch) ⟨_, _, W, rfl, ((T.toV (n0 := n + 2) (fun a o => ?_)).keep (Nat.le_refl _) (fun a h1 h2 => ?_)).low (by omega), fun a ha => ?_, by omega⟩
   ·exact hI.ow a (by dsimp only; rw [List.take_length]; exact o)
   ·(simp (disch := (first | omega | assumption)) only [↓appC, ↓updN, ↓updS, ↓app0])
   ·rw [show app _ g a = g a from by (simp (disch := (first | omega | assumption)) only [↓appC, ↓updN, ↓updS, ↓app0])]; exact q5 a ha
open Go.V
set_option linter.unusedVariables false
set_option linter.unusedSimpArgs false
set_option maxRecDepth 20000
set_option maxHeartbeats 4000000
theorem o49et (tm nx : Int) (sn : List Sn) (fr : Bool) (hS : sn.length ≤ 1048576)  {h : Heap} {n : Nat} :
  OpenM En 49 [.agg [.int .i64 tm, .int .i64 nx, .nsl, .sl fr true (sn.map Sn.T)]] h n (fun v g m => ∃ Sl Ss W, v = .agg [.int .i64 tm, .int .i64 nx, Sl, Ss] ∧ TabV ⟨tm, nx, [], sn⟩ Sl Ss W g n m ∧ (∀ a, a < n → g a = h a) ∧ n ≤ m) := by
 refine OpenM.of_wp Try.func49 rfl kb ?_
 refine A2 (A0 ?_)
 (refine K7 (u := .agg [.int .i64 tm, .int .i64 nx, .nsl, .sl fr true (sn.map Sn.T)]) j3 rfl j3 ?_)
 refine H3 j6 (A3 (A1 (A2 (B9 [0, 1, 0, 4, 0, 16, 48, 127, 0, 511] rfl (by decide +kernel) ?_))))
 refine C9 (off := 0) (s := 1) (r := false) j3 kz j3 ?_
 (apply D5 (v := .int _ _) j2; exact Q0; exact C8; exact j5)
 refine C9 (off := 1) (s := 1) (r := false) j3 kz j3 ?_
 (apply D5 (v := .int _ _) j2; exact Q0; exact C8; exact j5)
 refine C9 (off := 3) (s := 1) (r := false) j3 kz j3 ?_
 (apply D5 (v := .sl _ _ _) j2; exact Q0; exact C8; exact j5)
 (apply dfr (o90 fr sn hS) rfl j2; (intro x hx; simp only [List.mem_cons, List.not_mem_nil, or_false] at hx; subst hx; rfl); rfl; (exact flatSn sn); exact List.cons_ne_nil _ _; exact j3)
 refine dbd (cs := [.int _ _, .int _ _, _, _]) j5 (dal j6 ?_)
 (apply dst (u := .agg [.int _ _, .int _ _, _, _]) rfl rfl rfl; exact Q0; exact C8; rfl; rfl; rfl; rfl; exact kb; rfl; rfl; rfl)
 refine B3 10 [3, 3, 0, 3, 1, 0, 1, 0, 1, 0] [(1, 6), (3, 6), (1, 8), (3, 8), (5, 8), (6, 8)] j2 (by decide +kernel) ?_ ?_
 ·(simp [ClearL, ids]; try omega)
 refine A1 (A2 (A2 (A0 (C2 (off := 2) (s := 1) (r := false) j3 kz j3 ?_))))
 (apply C6 (v := .nsl) j2; exact Q0; exact C8; exact j5)
 refine G7 rfl rfl rfl j3 (B5 j5 (A3 (A1 (B4 (F0 (E8 (A2 (A0 ?_))))))))
 refine H9 j6 (fun h => absurd h (by show ¬ (0 : Int) < 0; decide)) ?_
 intro h3_0
 refine A3 (A1 (A2 (wF rfl (E5 (E6 (D2 (C5 (A1 (A2 (A0 ?_))))))))))
 (apply F7 (vs := [.int _ _, .int _ _, _, _]) j2; exact Q0; exact C8; rfl; exact kb; rfl; exact j3)
 (apply D6 (u := .agg [.int _ _, .int _ _, _, _]) j3; exact Q0; exact C8; rfl; rfl; rfl; rfl; exact kb; rfl; exact j2)
 refine A3 (A1 (B1 ?_))
 refine E0 (A6 (A7 rfl (by exact Q0) j2 kb rfl) A9) (by (repeat first | exact Ch.refl _ | refine Ch.upd ?_ | refine Ch.app ?_ | assumption)) ⟨.nsl, (.view (n + 3) 0 sn.length), fun _ => .nsl, rfl, ⟨.inl ⟨rfl, rfl⟩, ?_, fun i hi => absurd hi (Nat.not_lt_zero _), nofun, fun a ha => ?_, fun i a hi _ => absurd hi (Nat.not_lt_zero _)⟩, fun a ha => ?_, by omega⟩
 ·exact .inr ⟨n + 3, by rw [List.length_map], by exact Q0⟩
 ·cases ha; exact ⟨by omega, nofun⟩
 ·(simp (disch := (first | omega | assumption)) only [↓appC, ↓updN, ↓updS, ↓app0])
theorem o49ef (tm nx : Int) (sn : List Sn) (fr : Bool) (hS : sn.length ≤ 1048576) (hs : sn = []) {h : Heap} {n : Nat} :
  OpenM En 49 [.agg [.int .i64 tm, .int .i64 nx, .nsl, .nsl]] h n (fun v g m => ∃ Sl Ss W, v = .agg [.int .i64 tm, .int .i64 nx, Sl, Ss] ∧ TabV ⟨tm, nx, [], sn⟩ Sl Ss W g n m ∧ (∀ a, a < n → g a = h a) ∧ n ≤ m) := by
 refine OpenM.of_wp Try.func49 rfl kb ?_
 refine A2 (A0 ?_)
 (refine K7 (u := .agg [.int .i64 tm, .int .i64 nx, .nsl, .nsl]) j3 rfl j3 ?_)
 refine H3 j6 (A3 (A1 (A2 (B9 [0, 1, 0, 4, 0, 16, 48, 127, 0, 511] rfl (by decide +kernel) ?_))))
 refine C9 (off := 0) (s := 1) (r := false) j3 kz j3 ?_
 (apply D5 (v := .int _ _) j2; exact Q0; exact C8; exact j5)
 refine C9 (off := 1) (s := 1) (r := false) j3 kz j3 ?_
 (apply D5 (v := .int _ _) j2; exact Q0; exact C8; exact j5)
 refine C9 (off := 3) (s := 1) (r := false) j3 kz j3 ?_
 (apply D5 (v := .nsl) j2; exact Q0; exact C8; exact j5)
 refine dcl s90z rfl j5 (dbd (cs := [.int _ _, .int _ _, _, _]) j5 (dal j6 ?_))
 (apply dst (u := .agg [.int _ _, .int _ _, _, _]) rfl rfl rfl; exact Q0; exact C8; rfl; rfl; rfl; rfl; exact kb; rfl; rfl; rfl)
 refine B3 10 [3, 3, 0, 0, 1, 0, 1, 0, 1, 0] [(1, 8), (3, 8), (5, 8)] j2 (by decide +kernel) ?_ ?_
 ·(simp [ClearL, ids]; try omega)
 refine A1 (A2 (A2 (A0 (C2 (off := 2) (s := 1) (r := false) j3 kz j3 ?_))))
 (apply C6 (v := .nsl) j2; exact Q0; exact C8; exact j5)
 refine G7 rfl rfl rfl j3 (B5 j5 (A3 (A1 (B4 (F0 (E8 (A2 (A0 ?_))))))))
 refine H9 j6 (fun h => absurd h (by show ¬ (0 : Int) < 0; decide)) ?_
 intro h3_0
 refine A3 (A1 (A2 (wF rfl (E5 (E6 (D2 (C5 (A1 (A2 (A0 ?_))))))))))
 (apply F7 (vs := [.int _ _, .int _ _, _, _]) j2; exact Q0; exact C8; rfl; exact kb; rfl; exact j3)
 (apply D6 (u := .agg [.int _ _, .int _ _, _, _]) j3; exact Q0; exact C8; rfl; rfl; rfl; rfl; exact kb; rfl; exact j2)
 refine A3 (A1 (B1 ?_))
 refine E0 (A6 (A7 rfl (by exact Q0) j2 kb rfl) A9) (by (repeat first | exact Ch.refl _ | refine Ch.upd ?_ | refine Ch.app ?_ | assumption)) ⟨.nsl, .nsl, fun _ => .nsl, rfl, ⟨.inl ⟨rfl, rfl⟩, ?_, fun i hi => absurd hi (Nat.not_lt_zero _), nofun, fun a ha => ?_, fun i a hi _ => absurd hi (Nat.not_lt_zero _)⟩, fun a ha => ?_, by omega⟩
 ·exact .inl ⟨rfl, by rw [show sn = [] from hs]; rfl⟩
 ·cases ha
 ·(simp (disch := (first | omega | assumption)) only [↓appC, ↓updN, ↓updS, ↓app0])
theorem o49N (t : Tb) (B : Nat → Bool) (b1 b2 fr : Bool) (hN : NilOK t B b1 b2) (hL : t.lk.length ≤ 1000) (hW : ∀ i, i < t.lk.length → (t.lk.getD i Lk0).ws.length ≤ 1048576) (hS : t.sn.length ≤ 1048576) {h : Heap} {n : Nat} :
  OpenM En 49 [.agg [.int .i64 t.tm, .int .i64 t.nx, T.toV fr (nlT b1 (lksN B t.lk)), T.toV fr (nlT b2 (t.sn.map Sn.T))]] h n (fun v g m => ∃ Sl Ss W, v = .agg [.int .i64 t.tm, .int .i64 t.nx, Sl, Ss] ∧ TabV t Sl Ss W g n m ∧ (∀ a, a < n → g a = h a) ∧ n ≤ m) := by
 cases b1 with
 | true =>
  cases b2 with
  | true => exact o49t t B fr hN hL hW hS
  | false => exact o49f t B fr hN hL hW hS
 | false =>
  obtain ⟨tm, nx, lk, sn⟩ := t
  obtain rfl : lk = [] := hN.l rfl
  cases b2 with
  | true => exact o49et tm nx sn fr hS
  | false => exact o49ef tm nx sn fr hS (hN.s rfl)
open Go.V
set_option linter.unusedVariables false
set_option linter.unusedSimpArgs false
set_option maxRecDepth 20000
set_option maxHeartbeats 4000000
theorem TR_slW {I : Nat → Prop} {w : World} {nn n2 : Bool} (hnn : n2 = true → nn = true) {es es2 : List (List T)} (hl : es.length = es2.length) (hc : ∀ (i : Nat) (e e2 : List T), es[i]? = some e → es2[i]? = some e2 → e.length = e2.length)
  (hs : ∀ (i j : Nat) (x y : T) (v : Value), get2 es i j = some x → get2 es2 i j = some y → TR I w x v → TR I w y v) {v : Value} (h : TR I w (.sl nn es) v) : TR I w (.sl n2 es2) v := by
 have key : ∀ (i j : Nat) (c : T), get2 es2 i j = some c → ∃ x, get2 es i j = some x := by
  intro i j c h
  unfold get2 at h ⊢
  cases h2 : es2[i]? with
  | none => rw [h2] at h; exact absurd h nofun
  | some e2 =>
   rw [h2] at h
   have hi : i < es2.length := (List.getElem?_eq_some_iff.1 h2).1
   have h1 : es[i]? = some es[i] := List.getElem?_eq_getElem (by omega)
   have hj : j < e2.length := (List.getElem?_eq_some_iff.1 h).1
   have := hc i _ _ h1 h2
   exact ⟨es[i][j], by rw [h1]; exact List.getElem?_eq_getElem (by omega)⟩
 cases h with
 | sl _ _ a len cap sz rd hlen hcap hnil hI hsz hrd hsub =>
  refine .sl n2 es2 a len cap sz rd (by omega) hcap (fun e => ?_) (fun A hA hne => hI A hA (fun e => hne (List.eq_nil_of_length_eq_zero (by rw [← hl, e]; rfl)))) (fun e he => ?_) (fun A i j c hA hg => ?_) (fun i j c hg => ?_)
  ·obtain ⟨q1, q2, q3⟩ := hnil e
   refine ⟨?_, List.eq_nil_of_length_eq_zero (by rw [← hl, q2]; rfl), q3⟩
   cases n2 with
   | false => rfl
   | true => rw [hnn rfl] at q1; cases q1
  ·obtain ⟨i, hi, rfl⟩ := List.getElem_of_mem he
   have h1 : es[i]? = some es[i] := List.getElem?_eq_getElem (by omega)
   rw [← hc i _ _ h1 (List.getElem?_eq_getElem hi)]
   exact hsz _ (List.getElem_mem _)
  ·obtain ⟨x, hx⟩ := key i j c hg; exact hrd A i j x hA hx
  ·obtain ⟨x, hx⟩ := key i j c hg; exact hs i j x c _ hx hg (hsub i j x hx)
theorem TR_nlW {I : Nat → Prop} {w : World} {b : Bool} {es es2 : List (List T)} (hb : b = false → es2 = []) (hl : es.length = es2.length) (hc : ∀ (i : Nat) (e e2 : List T), es[i]? = some e → es2[i]? = some e2 → e.length = e2.length)
  (hs : ∀ (i j : Nat) (x y : T) (v : Value), get2 es i j = some x → get2 es2 i j = some y → TR I w x v → TR I w y v) {v : Value} (h : TR I w (nlT b es) v) : TR I w (.sl false es2) v := by
 cases b with
 | true => exact TR_slW (fun e => by cases e) hl hc hs h
 | false => rw [hb rfl]; exact TW.ok .nil h
theorem same2 {I : Nat → Prop} {w : World} {es : List (List T)} : ∀ (i j : Nat) (x y : T) (v : Value), get2 es i j = some x → get2 es i j = some y → TR I w x v → TR I w y v := fun i j x y v h1 h2 h => by
 rw [h1] at h2; cases h2; exact h
theorem len2 {es : List (List T)} : ∀ (i : Nat) (e e2 : List T), es[i]? = some e → es[i]? = some e2 → e.length = e2.length := fun i e e2 h1 h2 => by rw [h1] at h2; cases h2; rfl
theorem AR_N {I : Nat → Prop} {w : World} {t : Tb} {B : Nat → Bool} {b1 b2 : Bool} (hN : NilOK t B b1 b2) {v : Value} (h : AR I w (.agg (t.N B b1 b2)) v) : AR I w (.agg (t.T false false false)) v := by
 have hlk : ∀ u, TR I w (nlT b1 (lksN B t.lk)) u → TR I w (.sl false (t.lk.map (Lk.T false))) u := fun u hu => by
  have e1 : ∀ i, i < t.lk.length → (lksN B t.lk)[i]? = some ((t.lk.getD i Lk0).N (B i)) := fun i hi => I1 hi
  have e2 : ∀ i, i < t.lk.length → (t.lk.map (Lk.T false))[i]? = some ((t.lk.getD i Lk0).T false) := fun i hi => D8 (Lk.T false) Lk0 hi
  have hil : ∀ i e, (lksN B t.lk)[i]? = some e → i < t.lk.length := fun i e h => by have := (List.getElem?_eq_some_iff.1 h).1; rw [K5] at this; exact this
  refine TR_nlW (fun e => by rw [hN.l e]; rfl) (by rw [K5, List.length_map]) (fun i e e3 h1 h2 => ?_) (fun i j x y v h1 h2 hx => ?_) hu
  ·have hi := hil i e h1
   rw [e1 i hi] at h1; rw [e2 i hi] at h2
   cases h1; cases h2; rfl
  ·unfold get2 at h1 h2
   by_cases hi : i < t.lk.length
   ·rw [e1 i hi] at h1; rw [e2 i hi] at h2
    match j with
    | 0 => cases h1; cases h2; exact hx
    | 1 => cases h1; cases h2; exact hx
    | 2 => cases h1; cases h2; exact hx
    | 3 => cases h1; cases h2; exact hx
    | 4 => cases h1; cases h2; exact TR_nlW (fun e => by rw [hN.w i hi e]; rfl) rfl len2 same2 hx
    | j + 5 => exact absurd h1 nofun
   ·rw [show (lksN B t.lk)[i]? = none from List.getElem?_eq_none (by rw [K5]; omega)] at h1; exact absurd h1 nofun
 cases h with
 | agg _ vs hl hv =>
  refine .agg _ vs hl fun i x u hx hu => ?_
  match i with
  | 0 => exact hv 0 x u hx hu
  | 1 => exact hv 1 x u hx hu
  | 2 =>
   have hx : some (T.sl false (t.lk.map (Lk.T false))) = some x := hx
   cases hx
   exact hlk u (hv 2 _ u rfl hu)
  | 3 =>
   have hx : some (T.sl false (t.sn.map Sn.T)) = some x := hx
   cases hx
   exact TR_nlW (fun e => by rw [hN.s e]; rfl) rfl len2 same2 (hv 3 _ u rfl hu)
  | i + 4 => exact absurd hx nofun
theorem Pure.ofN {f : FuncId} {t : Tb} {B : Nat → Bool} {b1 b2 : Bool} (hN : NilOK t B b1 b2) {az rs : List A} (hp : Pure En f (.agg (t.T false false false) :: az) rs) : Pure En f (.agg (t.N B b1 b2) :: az) rs := by
 unfold V.Pure at hp ⊢
 refine ⟨hp.1, fun I w vs h1 h2 h3 h4 => hp.2 I w vs h1 h2 (by rw [← h3]; rfl) fun i a v ha hv => ?_⟩
 cases i with
 | zero =>
  have ha : some (A.agg (t.T false false false)) = some a := ha
  cases ha
  exact AR_N hN (h4 0 _ v rfl hv)
 | succ i => exact h4 (i + 1) a v ha hv
open Go.V
set_option linter.unusedVariables false
set_option linter.unusedSimpArgs false
set_option maxRecDepth 20000
set_option maxHeartbeats 4000000
theorem o27tt (t : Tb) (B : Nat → Bool) (hN : NilOK t B true true) (now : Int) (r : Rq) {h : Heap} {n : Nat} : OpenM En 27 [.agg [.int .i64 t.tm, .int .i64 t.nx, .sl false true (lksN B t.lk), .sl false true (t.sn.map Sn.T)], .int .i64 now, .agg [.int .i64 r.cl, .int .i64 r.st, .int .i64 r.kd, .int .i64 r.le, .str r.nm]] h n (fun v g m => ∃ Sl Ss W, v = .tup [.agg [.int .i64 (apA t now r).1.tm, .int .i64 (apA t now r).1.nx, Sl, Ss], .agg (apA t now r).2.1.V, .int .i64 (apA t now r).2.2] ∧ TabV (apA t now r).1 Sl Ss W g n m ∧ (∀ a, a < n → g a = h a) ∧ n ≤ m) := by
 refine OpenM.of_wp Try.func27 rfl kb ?_
 refine A2 (A0 ?_)
 (refine K7 (u := .agg [.int .i64 t.tm, .int .i64 t.nx, .sl false true (lksN B t.lk), .sl false true (t.sn.map Sn.T)]) j3 rfl j3 ?_)
 refine K7 (u := .agg [.int _ _, .int _ _, .int _ _, .int _ _, .str _]) j3 rfl j3 (H3 j6 (H3 j6 (D1 j5 (A3 (A1 (A2 (B4 (A2 (A0 ?_)))))))))
 (apply F7 (vs := [.int _ _, .int _ _, _, _]) j2; exact Q0; exact C8; rfl; exact kb; rfl; exact j3)
 refine F3 (Pure.ofN hN (p23 t false false false)) rfl j5 ?_ ?_ <;> intro h1_1
 ·refine E1 (c := true) j5 (C7 j5 ?_)
  (apply F7 (vs := [.int _ _, .int _ _, .int _ _, .int _ _, .str _]) j2; exact Q0; exact C8; rfl; exact kb; rfl; exact j3)
  refine F3 (p26 r) rfl j5 ?_ ?_ <;> intro h1_5
  ·refine E1 (c := true) j5 (B7 (e := false) j6 (C3 j5 (A3 (A1 (wF rfl (A2 (A0 (B5 j5 ?_))))))))
   refine F3 (s59 now) rfl j5 ?_ ?_ <;> intro h3_1
   ·refine E1 (c := true) j5 (C3 j5 (A3 (A1 (wF rfl (A2 (A0 (C2 (off := 1) (s := 1) (r := false) j3 kz j3 ?_)))))))
    (apply C6 (v := .int _ _) j2; exact Q0; exact C8; exact j5)
    refine V9 j6 ?_ ?_ <;> intro h5_2
    ·refine C3 j5 (A3 (A1 (wT rfl (A2 (A0 ?_)))))
     (apply F7 (vs := [.int _ _, .int _ _, _, _]) j2; exact Q0; exact C8; rfl; exact kb; rfl; exact j3)
     refine L4 (o49N t B true true false hN (by have := h1_1.2.2.1; omega) (fun i hi => by have := OKw h1_1 hi; omega) (by have := h1_1.2.2.2.1; omega)) rfl j5 ?_
     rintro _ g1 m1 ⟨Sl1, Ss1, W1, rfl, TV, fr1, le1⟩ hc1 hl1
     have kcl1 := TV.kl.cell
     have kcs1 := TV.ks.cell
     have q1 : g1 (n + 1) = some ⟨[[.int .i64 r.cl, .int .i64 r.st, .int .i64 r.kd, .int .i64 r.le, .str r.nm]], 5, 64⟩ := by rw [fr1 (n + 1) (by omega)]; (simp (disch := (first | omega | assumption)) only [↓appC, ↓updN, ↓updS, ↓app0]); rfl
     have q2 : g1 (n + 1 + 1) = some ⟨[[.int .i64 0, .int .i64 0, .nsl, .nsl]], 4, 35⟩ := by rw [fr1 (n + 1 + 1) (by omega)]; (simp (disch := (first | omega | assumption)) only [↓appC, ↓updN, ↓updS, ↓app0]); rfl
     have q3 : g1 (n + 1 + 1 + 1) = some ⟨[[.int .i64 0, .int .i64 0, .int .i64 0, .int .i64 0]], 4, 60⟩ := by rw [fr1 (n + 1 + 1 + 1) (by omega)]; (simp (disch := (first | omega | assumption)) only [↓appC, ↓updN, ↓updS, ↓app0]); rfl
     have qk : ∀ a, a < n → g1 a = h a := fun a ha => by rw [fr1 a (by omega)]; (simp (disch := (first | omega | assumption)) only [↓appC, ↓updN, ↓updS, ↓app0])
     refine N0 (cs := [.int _ _, .int _ _, .int _ _, .int _ _]) j5 ?_
     (apply D6 (u := .agg [.int _ _, .int _ _, _, _]) j3; exact Q0; exact C8; rfl; rfl; rfl; exact Q7; exact kb; rfl; exact j2)
     (apply D6 (u := .agg [.int _ _, .int _ _, .int _ _, .int _ _]) j3; exact Q0; exact C8; rfl; rfl; rfl; exact Q7; exact kb; rfl; exact j2)
     refine D1 j5 (A3 (A1 (B1 (A8 (B0 (E0 (A6 (A7 rfl (by exact Q0) j2 kb rfl) (A6 (A7 rfl (by exact Q0) j2 kb rfl) (A6 rfl A9))) (by (repeat first | exact Ch.refl _ | exact rc | refine Ch.trans ?_ hc3 | refine Ch.trans ?_ hc1 | refine Ch.upd ?_ | refine Ch.app ?_)) ?_))))))
     rw [Z0 ⟨h1_1, h1_5⟩ h3_1 h5_2]
     exact ⟨Sl1, Ss1, W1, rfl, (TV.keep (Nat.le_refl _) (fun a h1 h2 => by (simp (disch := (first | omega | assumption)) only [↓appC, ↓updN, ↓updS, ↓app0]))).low (by omega), fun a ha => (by (simp (disch := (first | omega | assumption)) only [↓appC, ↓updN, ↓updS, ↓app0]); exact qk a ha), by omega⟩
    ·refine C3 j5 (A3 (A1 (wF rfl (B2 (C0 (A1 (A2 (A0 ?_))))))))
     (apply F7 (vs := [.int _ _, .int _ _, _, _]) j2; exact Q0; exact C8; rfl; exact kb; rfl; exact j3)
     refine L4 (o49N t B true true false hN (by have := h1_1.2.2.1; omega) (fun i hi => by have := OKw h1_1 hi; omega) (by have := h1_1.2.2.2.1; omega)) rfl j5 ?_
     rintro _ g1 m1 ⟨Sl1, Ss1, W1, rfl, TV, fr1, le1⟩ hc1 hl1
     have kcl1 := TV.kl.cell
     have kcs1 := TV.ks.cell
     have q1 : g1 (n + 1) = some ⟨[[.int .i64 r.cl, .int .i64 r.st, .int .i64 r.kd, .int .i64 r.le, .str r.nm]], 5, 64⟩ := by rw [fr1 (n + 1) (by omega)]; (simp (disch := (first | omega | assumption)) only [↓appC, ↓updN, ↓updS, ↓app0]); rfl
     have q2 : g1 (n + 1 + 1) = some ⟨[[.int .i64 0, .int .i64 0, .nsl, .nsl]], 4, 35⟩ := by rw [fr1 (n + 1 + 1) (by omega)]; (simp (disch := (first | omega | assumption)) only [↓appC, ↓updN, ↓updS, ↓app0]); rfl
     have q3 : g1 (n + 1 + 1 + 1) = some ⟨[[.int .i64 0, .int .i64 0, .int .i64 0, .int .i64 0]], 4, 60⟩ := by rw [fr1 (n + 1 + 1 + 1) (by omega)]; (simp (disch := (first | omega | assumption)) only [↓appC, ↓updN, ↓updS, ↓app0]); rfl
     have qk : ∀ a, a < n → g1 a = h a := fun a ha => by rw [fr1 a (by omega)]; (simp (disch := (first | omega | assumption)) only [↓appC, ↓updN, ↓updS, ↓app0])
     refine H3 j6 ?_
     (apply D6 (u := .agg [.int _ _, .int _ _, _, _]) j3; exact Q0; exact C8; rfl; rfl; rfl; exact Q7; exact kb; rfl; exact j2)
     refine A3 (A1 (A2 ?_))
     refine Z2 fun g2 hg2 => ?_
     have bq := Bq.of h1_1 h1_5 h3_1 (by omega)
     have T1 : TabM t m1 Sl1 Ss1 W1 g2 (m1 + 1) := TV.toM ⟨by omega, .inl (Nat.le_refl _)⟩ (by omega) (by rw [hg2]; (simp (disch := (first | omega | assumption)) only [↓appC, ↓updN, ↓updS, ↓app0]); rfl) (fun a h1 h2 => by rw [hg2]; (simp (disch := (first | omega | assumption)) only [↓appC, ↓updN, ↓updS, ↓app0]))
     have r1 : g2 (n + 1) = some ⟨[[.int .i64 r.cl, .int .i64 r.st, .int .i64 r.kd, .int .i64 r.le, .str r.nm]], 5, 64⟩ := by rw [hg2]; (simp (disch := (first | omega | assumption)) only [↓appC, ↓updN, ↓updS, ↓app0]); exact q1
     have r2 : g2 (n + 1 + 1) = some ⟨[[.int .i64 0, .int .i64 0, .nsl, .nsl]], 4, 35⟩ := by rw [hg2]; (simp (disch := (first | omega | assumption)) only [↓appC, ↓updN, ↓updS, ↓app0]); exact q2
     have r3 : g2 (n + 1 + 1 + 1) = some ⟨[[.int .i64 0, .int .i64 0, .int .i64 0, .int .i64 0]], 4, 60⟩ := by rw [hg2]; (simp (disch := (first | omega | assumption)) only [↓appC, ↓updN, ↓updS, ↓app0]); exact q3
     have rk : ∀ a, a < n → g2 a = h a := fun a ha => by rw [hg2]; (simp (disch := (first | omega | assumption)) only [↓appC, ↓updN, ↓updS, ↓app0]); exact qk a ha
     have rc : Ch h g2 := by rw [hg2]; (repeat first | exact Ch.refl _ | refine Ch.trans ?_ hc1 | refine Ch.upd ?_ | refine Ch.app ?_)
     refine A0 (B5 j5 ?_)
     (apply F7 (vs := [.int _ _, .int _ _, .int _ _, .int _ _, .str _]) j2; exact Q0; exact C8; rfl; exact kb; rfl; exact j3)
     refine L4 (o71 t now r bq T1) rfl j5 ?_
     rintro _ g3 m3 ⟨rfl, S3⟩ hc3 hl3
     obtain ⟨Sl2, Ss2, W2, T2, x1, x2, x3⟩ := S3
     have hO1 : ∀ a, OwnT m1 Sl1 Ss1 W1 t.lk.length a → n + 1 + 1 + 1 + 1 ≤ a := fun a o => by have := TV.ownM a o; omega
     have hO : ∀ a, OwnT m1 Sl2 Ss2 W2 (rqT t now r).1.lk.length a → n + 1 + 1 + 1 + 1 ≤ a := fun a o => (x1 a o).elim (fun e => hO1 a e) (fun e => by omega)
     have kcl2 := T2.kl.cell
     have kcs2 := T2.ks.cell
     have kid2 : g3 m1 = some ⟨[[.int .i64 (rqT t now r).1.tm, .int .i64 (rqT t now r).1.nx, Sl2, Ss2]], 4, 35⟩ := T2.kid
     have p2 : g3 (n + 1 + 1) = some ⟨[[.int .i64 0, .int .i64 0, .nsl, .nsl]], 4, 35⟩ := by rw [x2 (n + 1 + 1) (by omega) (fun o => by have := hO1 _ o; omega)]; exact r2
     have p3 : g3 (n + 1 + 1 + 1) = some ⟨[[.int .i64 0, .int .i64 0, .int .i64 0, .int .i64 0]], 4, 60⟩ := by rw [x2 (n + 1 + 1 + 1) (by omega) (fun o => by have := hO1 _ o; omega)]; exact r3
     have pk : ∀ a, a < n → g3 a = h a := fun a ha => by rw [x2 a (by omega) (fun o => by have := hO1 _ o; omega)]; exact rk a ha
     refine H3 j6 ?_
     (apply D6 (u := .agg [.int _ _, .int _ _, .int _ _, .int _ _]) j3; exact Q0; exact C8; rfl; rfl; rfl; exact Q7; exact kb; rfl; exact j2)
     refine A3 (A1 (A2 (B9 [0, 0, 1, 7, 15] rfl (by decide +kernel) ?_)))
     (apply L8 (vs := [.int _ _, .int _ _, _, _]) j2; exact Q0; exact C8; rfl; exact kb; exact j4)
     (apply L8 (vs := [.int _ _, .int _ _, .int _ _, .int _ _]) j2; exact Q0; exact C8; rfl; exact kb; exact j4)
     (apply dst (u := .agg [.int _ _, .int _ _, _, _]) rfl rfl rfl; exact Q0; exact C8; rfl; rfl; rfl; exact Q7; exact kb; rfl; rfl; rfl)
     (apply dst (u := .agg [.int _ _, .int _ _, .int _ _, .int _ _]) rfl rfl rfl; exact Q0; exact C8; rfl; rfl; rfl; exact Q7; exact kb; rfl; rfl; rfl)
     refine daI j5 (B3 5 [0, 3, 3, 1, 1] [(1, 2)] j2 (by decide +kernel) ?_ ?_)
     ·(simp [ClearL, ids]; try omega)
     refine A1 (B1 (E0 (A6 (A7 rfl (by exact Q0) j2 kb rfl) (A6 (A7 rfl (by exact Q0) j2 kb rfl) (A6 rfl A9))) (by (repeat first | exact Ch.refl _ | exact rc | refine Ch.trans ?_ hc3 | refine Ch.trans ?_ hc1 | refine Ch.upd ?_ | refine Ch.app ?_)) ?_))
     rw [BU ⟨h1_1, h1_5⟩ h3_1 h5_2]
     exact ⟨Sl2, Ss2, W2, rfl, ((T2.toV (n0 := n + 1 + 1 + 1 + 1) hO).keep (m := m3 + 1) (by omega) (fun a h1 h2 => by (simp (disch := (first | omega | assumption)) only [↓appC, ↓updN, ↓updS, ↓app0]))).low (by omega), fun a ha => (by (simp (disch := (first | omega | assumption)) only [↓appC, ↓updN, ↓updS, ↓app0]); exact pk a ha), by omega⟩
   ·refine E1 (c := false) j5 (C3 j5 (A3 (A1 (wT rfl (A2 (A0 (N0 (cs := [.int _ _, .int _ _, _, _]) j5 (N0 (cs := [.int _ _, .int _ _, .int _ _, .int _ _]) j5 ?_))))))))
    (apply D6 (u := .agg [.int _ _, .int _ _, _, _]) j3; exact Q0; exact C8; rfl; rfl; rfl; exact Q7; exact kb; rfl; exact j2)
    (apply D6 (u := .agg [.int _ _, .int _ _, .int _ _, .int _ _]) j3; exact Q0; exact C8; rfl; rfl; rfl; exact Q7; exact kb; rfl; exact j2)
    refine D1 j5 (A3 (A1 (B1 (A8 (B0 (E0 (A6 (A7 rfl (by exact Q0) j2 kb rfl) (A6 (A7 rfl (by exact Q0) j2 kb rfl) (A6 rfl A9))) (by (repeat first | exact Ch.refl _ | exact rc | refine Ch.trans ?_ hc3 | refine Ch.trans ?_ hc1 | refine Ch.upd ?_ | refine Ch.app ?_)) ?_))))))
    rw [BC ⟨h1_1, h1_5⟩ h3_1]
    exact ⟨.nsl, .nsl, _, rfl, TabV.zero _ _ _, fun a ha => (by (simp (disch := (first | omega | assumption)) only [↓appC, ↓updN, ↓updS, ↓app0])), by omega⟩
  ·refine E1 (c := false) j5 (B7 (e := true) j6 (C3 j5 (A3 (A1 (wT rfl (A2 (A0 (N0 (cs := [.int _ _, .int _ _, _, _]) j5 (N0 (cs := [.int _ _, .int _ _, .int _ _, .int _ _]) j5 ?_)))))))))
   (apply D6 (u := .agg [.int _ _, .int _ _, _, _]) j3; exact Q0; exact C8; rfl; rfl; rfl; exact Q7; exact kb; rfl; exact j2)
   (apply D6 (u := .agg [.int _ _, .int _ _, .int _ _, .int _ _]) j3; exact Q0; exact C8; rfl; rfl; rfl; exact Q7; exact kb; rfl; exact j2)
   refine D1 j5 (A3 (A1 (B1 (A8 (B0 ?_)))))
   have hb : ¬ (t.OK ∧ r.OK) := (fun e => by have e1 := e.1; have e2 := e.2; first | exact h1_1 e1 | exact h1_5 e2)
   refine E0 (A6 (A7 rfl (by exact Q0) j2 kb rfl) (A6 (A7 rfl (by exact Q0) j2 kb rfl) (A6 rfl A9))) (by (repeat first | exact Ch.refl _ | exact rc | refine Ch.trans ?_ hc3 | refine Ch.trans ?_ hc1 | refine Ch.upd ?_ | refine Ch.app ?_)) ?_
   rw [O3 hb]
   exact ⟨.nsl, .nsl, _, rfl, TabV.zero _ _ _, fun a ha => (by (simp (disch := (first | omega | assumption)) only [↓appC, ↓updN, ↓updS, ↓app0])), by omega⟩
 ·refine E1 (c := false) j5 (C7 j5 (A4 j3 (A4 j3 (A4 j3 (B7 (e := true) j6 (C3 j5 (A3 (A1 (wT rfl (A2 (A0 (N0 (cs := [.int _ _, .int _ _, _, _]) j5 ?_))))))))))))
  refine N0 (cs := [.int _ _, .int _ _, .int _ _, .int _ _]) j5 ?_
  (apply D6 (u := .agg [.int _ _, .int _ _, _, _]) j3; exact Q0; exact C8; rfl; rfl; rfl; exact Q7; exact kb; rfl; exact j2)
  (apply D6 (u := .agg [.int _ _, .int _ _, .int _ _, .int _ _]) j3; exact Q0; exact C8; rfl; rfl; rfl; exact Q7; exact kb; rfl; exact j2)
  refine D1 j5 (A3 (A1 (B1 (A8 (B0 ?_)))))
  have hb : ¬ (t.OK ∧ r.OK) := (fun e => by have e1 := e.1; have e2 := e.2; first | exact h1_1 e1 | exact h1_5 e2)
  refine E0 (A6 (A7 rfl (by exact Q0) j2 kb rfl) (A6 (A7 rfl (by exact Q0) j2 kb rfl) (A6 rfl A9))) (by (repeat first | exact Ch.refl _ | exact rc | refine Ch.trans ?_ hc3 | refine Ch.trans ?_ hc1 | refine Ch.upd ?_ | refine Ch.app ?_)) ?_
  rw [O3 hb]
  exact ⟨.nsl, .nsl, _, rfl, TabV.zero _ _ _, fun a ha => (by (simp (disch := (first | omega | assumption)) only [↓appC, ↓updN, ↓updS, ↓app0])), by omega⟩
theorem o27tf (t : Tb) (B : Nat → Bool) (hN : NilOK t B true false) (now : Int) (r : Rq) {h : Heap} {n : Nat} : OpenM En 27 [.agg [.int .i64 t.tm, .int .i64 t.nx, .sl false true (lksN B t.lk), .nsl], .int .i64 now, .agg [.int .i64 r.cl, .int .i64 r.st, .int .i64 r.kd, .int .i64 r.le, .str r.nm]] h n (fun v g m => ∃ Sl Ss W, v = .tup [.agg [.int .i64 (apA t now r).1.tm, .int .i64 (apA t now r).1.nx, Sl, Ss], .agg (apA t now r).2.1.V, .int .i64 (apA t now r).2.2] ∧ TabV (apA t now r).1 Sl Ss W g n m ∧ (∀ a, a < n → g a = h a) ∧ n ≤ m) := by
 refine OpenM.of_wp Try.func27 rfl kb ?_
 refine A2 (A0 ?_)
 (refine K7 (u := .agg [.int .i64 t.tm, .int .i64 t.nx, .sl false true (lksN B t.lk), .nsl]) j3 rfl j3 ?_)
 refine K7 (u := .agg [.int _ _, .int _ _, .int _ _, .int _ _, .str _]) j3 rfl j3 (H3 j6 (H3 j6 (D1 j5 (A3 (A1 (A2 (B4 (A2 (A0 ?_)))))))))
 (apply F7 (vs := [.int _ _, .int _ _, _, _]) j2; exact Q0; exact C8; rfl; exact kb; rfl; exact j3)
 refine F3 (Pure.ofN hN (p23 t false false false)) rfl j5 ?_ ?_ <;> intro h1_1
 ·refine E1 (c := true) j5 (C7 j5 ?_)
  (apply F7 (vs := [.int _ _, .int _ _, .int _ _, .int _ _, .str _]) j2; exact Q0; exact C8; rfl; exact kb; rfl; exact j3)
  refine F3 (p26 r) rfl j5 ?_ ?_ <;> intro h1_5
  ·refine E1 (c := true) j5 (B7 (e := false) j6 (C3 j5 (A3 (A1 (wF rfl (A2 (A0 (B5 j5 ?_))))))))
   refine F3 (s59 now) rfl j5 ?_ ?_ <;> intro h3_1
   ·refine E1 (c := true) j5 (C3 j5 (A3 (A1 (wF rfl (A2 (A0 (C2 (off := 1) (s := 1) (r := false) j3 kz j3 ?_)))))))
    (apply C6 (v := .int _ _) j2; exact Q0; exact C8; exact j5)
    refine V9 j6 ?_ ?_ <;> intro h5_2
    ·refine C3 j5 (A3 (A1 (wT rfl (A2 (A0 ?_)))))
     (apply F7 (vs := [.int _ _, .int _ _, _, _]) j2; exact Q0; exact C8; rfl; exact kb; rfl; exact j3)
     refine L4 (o49N t B true false false hN (by have := h1_1.2.2.1; omega) (fun i hi => by have := OKw h1_1 hi; omega) (by have := h1_1.2.2.2.1; omega)) rfl j5 ?_
     rintro _ g1 m1 ⟨Sl1, Ss1, W1, rfl, TV, fr1, le1⟩ hc1 hl1
     have kcl1 := TV.kl.cell
     have kcs1 := TV.ks.cell
     have q1 : g1 (n + 1) = some ⟨[[.int .i64 r.cl, .int .i64 r.st, .int .i64 r.kd, .int .i64 r.le, .str r.nm]], 5, 64⟩ := by rw [fr1 (n + 1) (by omega)]; (simp (disch := (first | omega | assumption)) only [↓appC, ↓updN, ↓updS, ↓app0]); rfl
     have q2 : g1 (n + 1 + 1) = some ⟨[[.int .i64 0, .int .i64 0, .nsl, .nsl]], 4, 35⟩ := by rw [fr1 (n + 1 + 1) (by omega)]; (simp (disch := (first | omega | assumption)) only [↓appC, ↓updN, ↓updS, ↓app0]); rfl
     have q3 : g1 (n + 1 + 1 + 1) = some ⟨[[.int .i64 0, .int .i64 0, .int .i64 0, .int .i64 0]], 4, 60⟩ := by rw [fr1 (n + 1 + 1 + 1) (by omega)]; (simp (disch := (first | omega | assumption)) only [↓appC, ↓updN, ↓updS, ↓app0]); rfl
     have qk : ∀ a, a < n → g1 a = h a := fun a ha => by rw [fr1 a (by omega)]; (simp (disch := (first | omega | assumption)) only [↓appC, ↓updN, ↓updS, ↓app0])
     refine N0 (cs := [.int _ _, .int _ _, .int _ _, .int _ _]) j5 ?_
     (apply D6 (u := .agg [.int _ _, .int _ _, _, _]) j3; exact Q0; exact C8; rfl; rfl; rfl; exact Q7; exact kb; rfl; exact j2)
     (apply D6 (u := .agg [.int _ _, .int _ _, .int _ _, .int _ _]) j3; exact Q0; exact C8; rfl; rfl; rfl; exact Q7; exact kb; rfl; exact j2)
     refine D1 j5 (A3 (A1 (B1 (A8 (B0 (E0 (A6 (A7 rfl (by exact Q0) j2 kb rfl) (A6 (A7 rfl (by exact Q0) j2 kb rfl) (A6 rfl A9))) (by (repeat first | exact Ch.refl _ | exact rc | refine Ch.trans ?_ hc3 | refine Ch.trans ?_ hc1 | refine Ch.upd ?_ | refine Ch.app ?_)) ?_))))))
     rw [Z0 ⟨h1_1, h1_5⟩ h3_1 h5_2]
     exact ⟨Sl1, Ss1, W1, rfl, (TV.keep (Nat.le_refl _) (fun a h1 h2 => by (simp (disch := (first | omega | assumption)) only [↓appC, ↓updN, ↓updS, ↓app0]))).low (by omega), fun a ha => (by (simp (disch := (first | omega | assumption)) only [↓appC, ↓updN, ↓updS, ↓app0]); exact qk a ha), by omega⟩
    ·refine C3 j5 (A3 (A1 (wF rfl (B2 (C0 (A1 (A2 (A0 ?_))))))))
     (apply F7 (vs := [.int _ _, .int _ _, _, _]) j2; exact Q0; exact C8; rfl; exact kb; rfl; exact j3)
     refine L4 (o49N t B true false false hN (by have := h1_1.2.2.1; omega) (fun i hi => by have := OKw h1_1 hi; omega) (by have := h1_1.2.2.2.1; omega)) rfl j5 ?_
     rintro _ g1 m1 ⟨Sl1, Ss1, W1, rfl, TV, fr1, le1⟩ hc1 hl1
     have kcl1 := TV.kl.cell
     have kcs1 := TV.ks.cell
     have q1 : g1 (n + 1) = some ⟨[[.int .i64 r.cl, .int .i64 r.st, .int .i64 r.kd, .int .i64 r.le, .str r.nm]], 5, 64⟩ := by rw [fr1 (n + 1) (by omega)]; (simp (disch := (first | omega | assumption)) only [↓appC, ↓updN, ↓updS, ↓app0]); rfl
     have q2 : g1 (n + 1 + 1) = some ⟨[[.int .i64 0, .int .i64 0, .nsl, .nsl]], 4, 35⟩ := by rw [fr1 (n + 1 + 1) (by omega)]; (simp (disch := (first | omega | assumption)) only [↓appC, ↓updN, ↓updS, ↓app0]); rfl
     have q3 : g1 (n + 1 + 1 + 1) = some ⟨[[.int .i64 0, .int .i64 0, .int .i64 0, .int .i64 0]], 4, 60⟩ := by rw [fr1 (n + 1 + 1 + 1) (by omega)]; (simp (disch := (first | omega | assumption)) only [↓appC, ↓updN, ↓updS, ↓app0]); rfl
     have qk : ∀ a, a < n → g1 a = h a := fun a ha => by rw [fr1 a (by omega)]; (simp (disch := (first | omega | assumption)) only [↓appC, ↓updN, ↓updS, ↓app0])
     refine H3 j6 ?_
     (apply D6 (u := .agg [.int _ _, .int _ _, _, _]) j3; exact Q0; exact C8; rfl; rfl; rfl; exact Q7; exact kb; rfl; exact j2)
     refine A3 (A1 (A2 ?_))
     refine Z2 fun g2 hg2 => ?_
     have bq := Bq.of h1_1 h1_5 h3_1 (by omega)
     have T1 : TabM t m1 Sl1 Ss1 W1 g2 (m1 + 1) := TV.toM ⟨by omega, .inl (Nat.le_refl _)⟩ (by omega) (by rw [hg2]; (simp (disch := (first | omega | assumption)) only [↓appC, ↓updN, ↓updS, ↓app0]); rfl) (fun a h1 h2 => by rw [hg2]; (simp (disch := (first | omega | assumption)) only [↓appC, ↓updN, ↓updS, ↓app0]))
     have r1 : g2 (n + 1) = some ⟨[[.int .i64 r.cl, .int .i64 r.st, .int .i64 r.kd, .int .i64 r.le, .str r.nm]], 5, 64⟩ := by rw [hg2]; (simp (disch := (first | omega | assumption)) only [↓appC, ↓updN, ↓updS, ↓app0]); exact q1
     have r2 : g2 (n + 1 + 1) = some ⟨[[.int .i64 0, .int .i64 0, .nsl, .nsl]], 4, 35⟩ := by rw [hg2]; (simp (disch := (first | omega | assumption)) only [↓appC, ↓updN, ↓updS, ↓app0]); exact q2
     have r3 : g2 (n + 1 + 1 + 1) = some ⟨[[.int .i64 0, .int .i64 0, .int .i64 0, .int .i64 0]], 4, 60⟩ := by rw [hg2]; (simp (disch := (first | omega | assumption)) only [↓appC, ↓updN, ↓updS, ↓app0]); exact q3
     have rk : ∀ a, a < n → g2 a = h a := fun a ha => by rw [hg2]; (simp (disch := (first | omega | assumption)) only [↓appC, ↓updN, ↓updS, ↓app0]); exact qk a ha
     have rc : Ch h g2 := by rw [hg2]; (repeat first | exact Ch.refl _ | refine Ch.trans ?_ hc1 | refine Ch.upd ?_ | refine Ch.app ?_)
     refine A0 (B5 j5 ?_)
     (apply F7 (vs := [.int _ _, .int _ _, .int _ _, .int _ _, .str _]) j2; exact Q0; exact C8; rfl; exact kb; rfl; exact j3)
     refine L4 (o71 t now r bq T1) rfl j5 ?_
     rintro _ g3 m3 ⟨rfl, S3⟩ hc3 hl3
     obtain ⟨Sl2, Ss2, W2, T2, x1, x2, x3⟩ := S3
     have hO1 : ∀ a, OwnT m1 Sl1 Ss1 W1 t.lk.length a → n + 1 + 1 + 1 + 1 ≤ a := fun a o => by have := TV.ownM a o; omega
     have hO : ∀ a, OwnT m1 Sl2 Ss2 W2 (rqT t now r).1.lk.length a → n + 1 + 1 + 1 + 1 ≤ a := fun a o => (x1 a o).elim (fun e => hO1 a e) (fun e => by omega)
     have kcl2 := T2.kl.cell
     have kcs2 := T2.ks.cell
     have kid2 : g3 m1 = some ⟨[[.int .i64 (rqT t now r).1.tm, .int .i64 (rqT t now r).1.nx, Sl2, Ss2]], 4, 35⟩ := T2.kid
     have p2 : g3 (n + 1 + 1) = some ⟨[[.int .i64 0, .int .i64 0, .nsl, .nsl]], 4, 35⟩ := by rw [x2 (n + 1 + 1) (by omega) (fun o => by have := hO1 _ o; omega)]; exact r2
     have p3 : g3 (n + 1 + 1 + 1) = some ⟨[[.int .i64 0, .int .i64 0, .int .i64 0, .int .i64 0]], 4, 60⟩ := by rw [x2 (n + 1 + 1 + 1) (by omega) (fun o => by have := hO1 _ o; omega)]; exact r3
     have pk : ∀ a, a < n → g3 a = h a := fun a ha => by rw [x2 a (by omega) (fun o => by have := hO1 _ o; omega)]; exact rk a ha
     refine H3 j6 ?_
     (apply D6 (u := .agg [.int _ _, .int _ _, .int _ _, .int _ _]) j3; exact Q0; exact C8; rfl; rfl; rfl; exact Q7; exact kb; rfl; exact j2)
     refine A3 (A1 (A2 (B9 [0, 0, 1, 7, 15] rfl (by decide +kernel) ?_)))
     (apply L8 (vs := [.int _ _, .int _ _, _, _]) j2; exact Q0; exact C8; rfl; exact kb; exact j4)
     (apply L8 (vs := [.int _ _, .int _ _, .int _ _, .int _ _]) j2; exact Q0; exact C8; rfl; exact kb; exact j4)
     (apply dst (u := .agg [.int _ _, .int _ _, _, _]) rfl rfl rfl; exact Q0; exact C8; rfl; rfl; rfl; exact Q7; exact kb; rfl; rfl; rfl)
     (apply dst (u := .agg [.int _ _, .int _ _, .int _ _, .int _ _]) rfl rfl rfl; exact Q0; exact C8; rfl; rfl; rfl; exact Q7; exact kb; rfl; rfl; rfl)
     refine daI j5 (B3 5 [0, 3, 3, 1, 1] [(1, 2)] j2 (by decide +kernel) ?_ ?_)
     ·(simp [ClearL, ids]; try omega)
     refine A1 (B1 (E0 (A6 (A7 rfl (by exact Q0) j2 kb rfl) (A6 (A7 rfl (by exact Q0) j2 kb rfl) (A6 rfl A9))) (by (repeat first | exact Ch.refl _ | exact rc | refine Ch.trans ?_ hc3 | refine Ch.trans ?_ hc1 | refine Ch.upd ?_ | refine Ch.app ?_)) ?_))
     rw [BU ⟨h1_1, h1_5⟩ h3_1 h5_2]
     exact ⟨Sl2, Ss2, W2, rfl, ((T2.toV (n0 := n + 1 + 1 + 1 + 1) hO).keep (m := m3 + 1) (by omega) (fun a h1 h2 => by (simp (disch := (first | omega | assumption)) only [↓appC, ↓updN, ↓updS, ↓app0]))).low (by omega), fun a ha => (by (simp (disch := (first | omega | assumption)) only [↓appC, ↓updN, ↓updS, ↓app0]); exact pk a ha), by omega⟩
   ·refine E1 (c := false) j5 (C3 j5 (A3 (A1 (wT rfl (A2 (A0 (N0 (cs := [.int _ _, .int _ _, _, _]) j5 (N0 (cs := [.int _ _, .int _ _, .int _ _, .int _ _]) j5 ?_))))))))
    (apply D6 (u := .agg [.int _ _, .int _ _, _, _]) j3; exact Q0; exact C8; rfl; rfl; rfl; exact Q7; exact kb; rfl; exact j2)
    (apply D6 (u := .agg [.int _ _, .int _ _, .int _ _, .int _ _]) j3; exact Q0; exact C8; rfl; rfl; rfl; exact Q7; exact kb; rfl; exact j2)
    refine D1 j5 (A3 (A1 (B1 (A8 (B0 (E0 (A6 (A7 rfl (by exact Q0) j2 kb rfl) (A6 (A7 rfl (by exact Q0) j2 kb rfl) (A6 rfl A9))) (by (repeat first | exact Ch.refl _ | exact rc | refine Ch.trans ?_ hc3 | refine Ch.trans ?_ hc1 | refine Ch.upd ?_ | refine Ch.app ?_)) ?_))))))
    rw [BC ⟨h1_1, h1_5⟩ h3_1]
    exact ⟨.nsl, .nsl, _, rfl, TabV.zero _ _ _, fun a ha => (by (simp (disch := (first | omega | assumption)) only [↓appC, ↓updN, ↓updS, ↓app0])), by omega⟩
  ·refine E1 (c := false) j5 (B7 (e := true) j6 (C3 j5 (A3 (A1 (wT rfl (A2 (A0 (N0 (cs := [.int _ _, .int _ _, _, _]) j5 (N0 (cs := [.int _ _, .int _ _, .int _ _, .int _ _]) j5 ?_)))))))))
   (apply D6 (u := .agg [.int _ _, .int _ _, _, _]) j3; exact Q0; exact C8; rfl; rfl; rfl; exact Q7; exact kb; rfl; exact j2)
   (apply D6 (u := .agg [.int _ _, .int _ _, .int _ _, .int _ _]) j3; exact Q0; exact C8; rfl; rfl; rfl; exact Q7; exact kb; rfl; exact j2)
   refine D1 j5 (A3 (A1 (B1 (A8 (B0 ?_)))))
   have hb : ¬ (t.OK ∧ r.OK) := (fun e => by have e1 := e.1; have e2 := e.2; first | exact h1_1 e1 | exact h1_5 e2)
   refine E0 (A6 (A7 rfl (by exact Q0) j2 kb rfl) (A6 (A7 rfl (by exact Q0) j2 kb rfl) (A6 rfl A9))) (by (repeat first | exact Ch.refl _ | exact rc | refine Ch.trans ?_ hc3 | refine Ch.trans ?_ hc1 | refine Ch.upd ?_ | refine Ch.app ?_)) ?_
   rw [O3 hb]
   exact ⟨.nsl, .nsl, _, rfl, TabV.zero _ _ _, fun a ha => (by (simp (disch := (first | omega | assumption)) only [↓appC, ↓updN, ↓updS, ↓app0])), by omega⟩
 ·refine E1 (c := false) j5 (C7 j5 (A4 j3 (A4 j3 (A4 j3 (B7 (e := true) j6 (C3 j5 (A3 (A1 (wT rfl (A2 (A0 (N0 (cs := [.int _ _, .int _ _, _, _]) j5 ?_))))))))))))
  refine N0 (cs := [.int _ _, .int _ _, .int _ _, .int _ _]) j5 ?_
  (apply D6 (u := .agg [.int _ _, .int _ _, _, _]) j3; exact Q0; exact C8; rfl; rfl; rfl; exact Q7; exact kb; rfl; exact j2)
  (apply D6 (u := .agg [.int _ _, .int _ _, .int _ _, .int _ _]) j3; exact Q0; exact C8; rfl; rfl; rfl; exact Q7; exact kb; rfl; exact j2)
  refine D1 j5 (A3 (A1 (B1 (A8 (B0 ?_)))))
  have hb : ¬ (t.OK ∧ r.OK) := (fun e => by have e1 := e.1; have e2 := e.2; first | exact h1_1 e1 | exact h1_5 e2)
  refine E0 (A6 (A7 rfl (by exact Q0) j2 kb rfl) (A6 (A7 rfl (by exact Q0) j2 kb rfl) (A6 rfl A9))) (by (repeat first | exact Ch.refl _ | exact rc | refine Ch.trans ?_ hc3 | refine Ch.trans ?_ hc1 | refine Ch.upd ?_ | refine Ch.app ?_)) ?_
  rw [O3 hb]
  exact ⟨.nsl, .nsl, _, rfl, TabV.zero _ _ _, fun a ha => (by (simp (disch := (first | omega | assumption)) only [↓appC, ↓updN, ↓updS, ↓app0])), by omega⟩
theorem o27ft (t : Tb) (B : Nat → Bool) (hN : NilOK t B false true) (now : Int) (r : Rq) {h : Heap} {n : Nat} : OpenM En 27 [.agg [.int .i64 t.tm, .int .i64 t.nx, .nsl, .sl false true (t.sn.map Sn.T)], .int .i64 now, .agg [.int .i64 r.cl, .int .i64 r.st, .int .i64 r.kd, .int .i64 r.le, .str r.nm]] h n (fun v g m => ∃ Sl Ss W, v = .tup [.agg [.int .i64 (apA t now r).1.tm, .int .i64 (apA t now r).1.nx, Sl, Ss], .agg (apA t now r).2.1.V, .int .i64 (apA t now r).2.2] ∧ TabV (apA t now r).1 Sl Ss W g n m ∧ (∀ a, a < n → g a = h a) ∧ n ≤ m) := by
 refine OpenM.of_wp Try.func27 rfl kb ?_
 refine A2 (A0 ?_)
 (refine K7 (u := .agg [.int .i64 t.tm, .int .i64 t.nx, .nsl, .sl false true (t.sn.map Sn.T)]) j3 rfl j3 ?_)
 refine K7 (u := .agg [.int _ _, .int _ _, .int _ _, .int _ _, .str _]) j3 rfl j3 (H3 j6 (H3 j6 (D1 j5 (A3 (A1 (A2 (B4 (A2 (A0 ?_)))))))))
 (apply F7 (vs := [.int _ _, .int _ _, _, _]) j2; exact Q0; exact C8; rfl; exact kb; rfl; exact j3)
 refine F3 (Pure.ofN hN (p23 t false false false)) rfl j5 ?_ ?_ <;> intro h1_1
 ·refine E1 (c := true) j5 (C7 j5 ?_)
  (apply F7 (vs := [.int _ _, .int _ _, .int _ _, .int _ _, .str _]) j2; exact Q0; exact C8; rfl; exact kb; rfl; exact j3)
  refine F3 (p26 r) rfl j5 ?_ ?_ <;> intro h1_5
  ·refine E1 (c := true) j5 (B7 (e := false) j6 (C3 j5 (A3 (A1 (wF rfl (A2 (A0 (B5 j5 ?_))))))))
   refine F3 (s59 now) rfl j5 ?_ ?_ <;> intro h3_1
   ·refine E1 (c := true) j5 (C3 j5 (A3 (A1 (wF rfl (A2 (A0 (C2 (off := 1) (s := 1) (r := false) j3 kz j3 ?_)))))))
    (apply C6 (v := .int _ _) j2; exact Q0; exact C8; exact j5)
    refine V9 j6 ?_ ?_ <;> intro h5_2
    ·refine C3 j5 (A3 (A1 (wT rfl (A2 (A0 ?_)))))
     (apply F7 (vs := [.int _ _, .int _ _, _, _]) j2; exact Q0; exact C8; rfl; exact kb; rfl; exact j3)
     refine L4 (o49N t B false true false hN (by have := h1_1.2.2.1; omega) (fun i hi => by have := OKw h1_1 hi; omega) (by have := h1_1.2.2.2.1; omega)) rfl j5 ?_
     rintro _ g1 m1 ⟨Sl1, Ss1, W1, rfl, TV, fr1, le1⟩ hc1 hl1
     have kcl1 := TV.kl.cell
     have kcs1 := TV.ks.cell
     have q1 : g1 (n + 1) = some ⟨[[.int .i64 r.cl, .int .i64 r.st, .int .i64 r.kd, .int .i64 r.le, .str r.nm]], 5, 64⟩ := by rw [fr1 (n + 1) (by omega)]; (simp (disch := (first | omega | assumption)) only [↓appC, ↓updN, ↓updS, ↓app0]); rfl
     have q2 : g1 (n + 1 + 1) = some ⟨[[.int .i64 0, .int .i64 0, .nsl, .nsl]], 4, 35⟩ := by rw [fr1 (n + 1 + 1) (by omega)]; (simp (disch := (first | omega | assumption)) only [↓appC, ↓updN, ↓updS, ↓app0]); rfl
     have q3 : g1 (n + 1 + 1 + 1) = some ⟨[[.int .i64 0, .int .i64 0, .int .i64 0, .int .i64 0]], 4, 60⟩ := by rw [fr1 (n + 1 + 1 + 1) (by omega)]; (simp (disch := (first | omega | assumption)) only [↓appC, ↓updN, ↓updS, ↓app0]); rfl
     have qk : ∀ a, a < n → g1 a = h a := fun a ha => by rw [fr1 a (by omega)]; (simp (disch := (first | omega | assumption)) only [↓appC, ↓updN, ↓updS, ↓app0])
     refine N0 (cs := [.int _ _, .int _ _, .int _ _, .int _ _]) j5 ?_
     (apply D6 (u := .agg [.int _ _, .int _ _, _, _]) j3; exact Q0; exact C8; rfl; rfl; rfl; exact Q7; exact kb; rfl; exact j2)
     (apply D6 (u := .agg [.int _ _, .int _ _, .int _ _, .int _ _]) j3; exact Q0; exact C8; rfl; rfl; rfl; exact Q7; exact kb; rfl; exact j2)
     refine D1 j5 (A3 (A1 (B1 (A8 (B0 (E0 (A6 (A7 rfl (by exact Q0) j2 kb rfl) (A6 (A7 rfl (by exact Q0) j2 kb rfl) (A6 rfl A9))) (by (repeat first | exact Ch.refl _ | exact rc | refine Ch.trans ?_ hc3 | refine Ch.trans ?_ hc1 | refine Ch.upd ?_ | refine Ch.app ?_)) ?_))))))
     rw [Z0 ⟨h1_1, h1_5⟩ h3_1 h5_2]
     exact ⟨Sl1, Ss1, W1, rfl, (TV.keep (Nat.le_refl _) (fun a h1 h2 => by (simp (disch := (first | omega | assumption)) only [↓appC, ↓updN, ↓updS, ↓app0]))).low (by omega), fun a ha => (by (simp (disch := (first | omega | assumption)) only [↓appC, ↓updN, ↓updS, ↓app0]); exact qk a ha), by omega⟩
    ·refine C3 j5 (A3 (A1 (wF rfl (B2 (C0 (A1 (A2 (A0 ?_))))))))
     (apply F7 (vs := [.int _ _, .int _ _, _, _]) j2; exact Q0; exact C8; rfl; exact kb; rfl; exact j3)
     refine L4 (o49N t B false true false hN (by have := h1_1.2.2.1; omega) (fun i hi => by have := OKw h1_1 hi; omega) (by have := h1_1.2.2.2.1; omega)) rfl j5 ?_
     rintro _ g1 m1 ⟨Sl1, Ss1, W1, rfl, TV, fr1, le1⟩ hc1 hl1
     have kcl1 := TV.kl.cell
     have kcs1 := TV.ks.cell
     have q1 : g1 (n + 1) = some ⟨[[.int .i64 r.cl, .int .i64 r.st, .int .i64 r.kd, .int .i64 r.le, .str r.nm]], 5, 64⟩ := by rw [fr1 (n + 1) (by omega)]; (simp (disch := (first | omega | assumption)) only [↓appC, ↓updN, ↓updS, ↓app0]); rfl
     have q2 : g1 (n + 1 + 1) = some ⟨[[.int .i64 0, .int .i64 0, .nsl, .nsl]], 4, 35⟩ := by rw [fr1 (n + 1 + 1) (by omega)]; (simp (disch := (first | omega | assumption)) only [↓appC, ↓updN, ↓updS, ↓app0]); rfl
     have q3 : g1 (n + 1 + 1 + 1) = some ⟨[[.int .i64 0, .int .i64 0, .int .i64 0, .int .i64 0]], 4, 60⟩ := by rw [fr1 (n + 1 + 1 + 1) (by omega)]; (simp (disch := (first | omega | assumption)) only [↓appC, ↓updN, ↓updS, ↓app0]); rfl
     have qk : ∀ a, a < n → g1 a = h a := fun a ha => by rw [fr1 a (by omega)]; (simp (disch := (first | omega | assumption)) only [↓appC, ↓updN, ↓updS, ↓app0])
     refine H3 j6 ?_
     (apply D6 (u := .agg [.int _ _, .int _ _, _, _]) j3; exact Q0; exact C8; rfl; rfl; rfl; exact Q7; exact kb; rfl; exact j2)
     refine A3 (A1 (A2 ?_))
     refine Z2 fun g2 hg2 => ?_
     have bq := Bq.of h1_1 h1_5 h3_1 (by omega)
     have T1 : TabM t m1 Sl1 Ss1 W1 g2 (m1 + 1) := TV.toM ⟨by omega, .inl (Nat.le_refl _)⟩ (by omega) (by rw [hg2]; (simp (disch := (first | omega | assumption)) only [↓appC, ↓updN, ↓updS, ↓app0]); rfl) (fun a h1 h2 => by rw [hg2]; (simp (disch := (first | omega | assumption)) only [↓appC, ↓updN, ↓updS, ↓app0]))
     have r1 : g2 (n + 1) = some ⟨[[.int .i64 r.cl, .int .i64 r.st, .int .i64 r.kd, .int .i64 r.le, .str r.nm]], 5, 64⟩ := by rw [hg2]; (simp (disch := (first | omega | assumption)) only [↓appC, ↓updN, ↓updS, ↓app0]); exact q1
     have r2 : g2 (n + 1 + 1) = some ⟨[[.int .i64 0, .int .i64 0, .nsl, .nsl]], 4, 35⟩ := by rw [hg2]; (simp (disch := (first | omega | assumption)) only [↓appC, ↓updN, ↓updS, ↓app0]); exact q2
     have r3 : g2 (n + 1 + 1 + 1) = some ⟨[[.int .i64 0, .int .i64 0, .int .i64 0, .int .i64 0]], 4, 60⟩ := by rw [hg2]; (simp (disch := (first | omega | assumption)) only [↓appC, ↓updN, ↓updS, ↓app0]); exact q3
     have rk : ∀ a, a < n → g2 a = h a := fun a ha => by rw [hg2]; (simp (disch := (first | omega | assumption)) only [↓appC, ↓updN, ↓updS, ↓app0]); exact qk a ha
     have rc : Ch h g2 := by rw [hg2]; (repeat first | exact Ch.refl _ | refine Ch.trans ?_ hc1 | refine Ch.upd ?_ | refine Ch.app ?_)
     refine A0 (B5 j5 ?_)
     (apply F7 (vs := [.int _ _, .int _ _, .int _ _, .int _ _, .str _]) j2; exact Q0; exact C8; rfl; exact kb; rfl; exact j3)
     refine L4 (o71 t now r bq T1) rfl j5 ?_
     rintro _ g3 m3 ⟨rfl, S3⟩ hc3 hl3
     obtain ⟨Sl2, Ss2, W2, T2, x1, x2, x3⟩ := S3
     have hO1 : ∀ a, OwnT m1 Sl1 Ss1 W1 t.lk.length a → n + 1 + 1 + 1 + 1 ≤ a := fun a o => by have := TV.ownM a o; omega
     have hO : ∀ a, OwnT m1 Sl2 Ss2 W2 (rqT t now r).1.lk.length a → n + 1 + 1 + 1 + 1 ≤ a := fun a o => (x1 a o).elim (fun e => hO1 a e) (fun e => by omega)
     have kcl2 := T2.kl.cell
     have kcs2 := T2.ks.cell
     have kid2 : g3 m1 = some ⟨[[.int .i64 (rqT t now r).1.tm, .int .i64 (rqT t now r).1.nx, Sl2, Ss2]], 4, 35⟩ := T2.kid
     have p2 : g3 (n + 1 + 1) = some ⟨[[.int .i64 0, .int .i64 0, .nsl, .nsl]], 4, 35⟩ := by rw [x2 (n + 1 + 1) (by omega) (fun o => by have := hO1 _ o; omega)]; exact r2
     have p3 : g3 (n + 1 + 1 + 1) = some ⟨[[.int .i64 0, .int .i64 0, .int .i64 0, .int .i64 0]], 4, 60⟩ := by rw [x2 (n + 1 + 1 + 1) (by omega) (fun o => by have := hO1 _ o; omega)]; exact r3
     have pk : ∀ a, a < n → g3 a = h a := fun a ha => by rw [x2 a (by omega) (fun o => by have := hO1 _ o; omega)]; exact rk a ha
     refine H3 j6 ?_
     (apply D6 (u := .agg [.int _ _, .int _ _, .int _ _, .int _ _]) j3; exact Q0; exact C8; rfl; rfl; rfl; exact Q7; exact kb; rfl; exact j2)
     refine A3 (A1 (A2 (B9 [0, 0, 1, 7, 15] rfl (by decide +kernel) ?_)))
     (apply L8 (vs := [.int _ _, .int _ _, _, _]) j2; exact Q0; exact C8; rfl; exact kb; exact j4)
     (apply L8 (vs := [.int _ _, .int _ _, .int _ _, .int _ _]) j2; exact Q0; exact C8; rfl; exact kb; exact j4)
     (apply dst (u := .agg [.int _ _, .int _ _, _, _]) rfl rfl rfl; exact Q0; exact C8; rfl; rfl; rfl; exact Q7; exact kb; rfl; rfl; rfl)
     (apply dst (u := .agg [.int _ _, .int _ _, .int _ _, .int _ _]) rfl rfl rfl; exact Q0; exact C8; rfl; rfl; rfl; exact Q7; exact kb; rfl; rfl; rfl)
     refine daI j5 (B3 5 [0, 3, 3, 1, 1] [(1, 2)] j2 (by decide +kernel) ?_ ?_)
     ·(simp [ClearL, ids]; try omega)
     refine A1 (B1 (E0 (A6 (A7 rfl (by exact Q0) j2 kb rfl) (A6 (A7 rfl (by exact Q0) j2 kb rfl) (A6 rfl A9))) (by (repeat first | exact Ch.refl _ | exact rc | refine Ch.trans ?_ hc3 | refine Ch.trans ?_ hc1 | refine Ch.upd ?_ | refine Ch.app ?_)) ?_))
     rw [BU ⟨h1_1, h1_5⟩ h3_1 h5_2]
     exact ⟨Sl2, Ss2, W2, rfl, ((T2.toV (n0 := n + 1 + 1 + 1 + 1) hO).keep (m := m3 + 1) (by omega) (fun a h1 h2 => by (simp (disch := (first | omega | assumption)) only [↓appC, ↓updN, ↓updS, ↓app0]))).low (by omega), fun a ha => (by (simp (disch := (first | omega | assumption)) only [↓appC, ↓updN, ↓updS, ↓app0]); exact pk a ha), by omega⟩
   ·refine E1 (c := false) j5 (C3 j5 (A3 (A1 (wT rfl (A2 (A0 (N0 (cs := [.int _ _, .int _ _, _, _]) j5 (N0 (cs := [.int _ _, .int _ _, .int _ _, .int _ _]) j5 ?_))))))))
    (apply D6 (u := .agg [.int _ _, .int _ _, _, _]) j3; exact Q0; exact C8; rfl; rfl; rfl; exact Q7; exact kb; rfl; exact j2)
    (apply D6 (u := .agg [.int _ _, .int _ _, .int _ _, .int _ _]) j3; exact Q0; exact C8; rfl; rfl; rfl; exact Q7; exact kb; rfl; exact j2)
    refine D1 j5 (A3 (A1 (B1 (A8 (B0 (E0 (A6 (A7 rfl (by exact Q0) j2 kb rfl) (A6 (A7 rfl (by exact Q0) j2 kb rfl) (A6 rfl A9))) (by (repeat first | exact Ch.refl _ | exact rc | refine Ch.trans ?_ hc3 | refine Ch.trans ?_ hc1 | refine Ch.upd ?_ | refine Ch.app ?_)) ?_))))))
    rw [BC ⟨h1_1, h1_5⟩ h3_1]
    exact ⟨.nsl, .nsl, _, rfl, TabV.zero _ _ _, fun a ha => (by (simp (disch := (first | omega | assumption)) only [↓appC, ↓updN, ↓updS, ↓app0])), by omega⟩
  ·refine E1 (c := false) j5 (B7 (e := true) j6 (C3 j5 (A3 (A1 (wT rfl (A2 (A0 (N0 (cs := [.int _ _, .int _ _, _, _]) j5 (N0 (cs := [.int _ _, .int _ _, .int _ _, .int _ _]) j5 ?_)))))))))
   (apply D6 (u := .agg [.int _ _, .int _ _, _, _]) j3; exact Q0; exact C8; rfl; rfl; rfl; exact Q7; exact kb; rfl; exact j2)
   (apply D6 (u := .agg [.int _ _, .int _ _, .int _ _, .int _ _]) j3; exact Q0; exact C8; rfl; rfl; rfl; exact Q7; exact kb; rfl; exact j2)
   refine D1 j5 (A3 (A1 (B1 (A8 (B0 ?_)))))
   have hb : ¬ (t.OK ∧ r.OK) := (fun e => by have e1 := e.1; have e2 := e.2; first | exact h1_1 e1 | exact h1_5 e2)
   refine E0 (A6 (A7 rfl (by exact Q0) j2 kb rfl) (A6 (A7 rfl (by exact Q0) j2 kb rfl) (A6 rfl A9))) (by (repeat first | exact Ch.refl _ | exact rc | refine Ch.trans ?_ hc3 | refine Ch.trans ?_ hc1 | refine Ch.upd ?_ | refine Ch.app ?_)) ?_
   rw [O3 hb]
   exact ⟨.nsl, .nsl, _, rfl, TabV.zero _ _ _, fun a ha => (by (simp (disch := (first | omega | assumption)) only [↓appC, ↓updN, ↓updS, ↓app0])), by omega⟩
 ·refine E1 (c := false) j5 (C7 j5 (A4 j3 (A4 j3 (A4 j3 (B7 (e := true) j6 (C3 j5 (A3 (A1 (wT rfl (A2 (A0 (N0 (cs := [.int _ _, .int _ _, _, _]) j5 ?_))))))))))))
  refine N0 (cs := [.int _ _, .int _ _, .int _ _, .int _ _]) j5 ?_
  (apply D6 (u := .agg [.int _ _, .int _ _, _, _]) j3; exact Q0; exact C8; rfl; rfl; rfl; exact Q7; exact kb; rfl; exact j2)
  (apply D6 (u := .agg [.int _ _, .int _ _, .int _ _, .int _ _]) j3; exact Q0; exact C8; rfl; rfl; rfl; exact Q7; exact kb; rfl; exact j2)
  refine D1 j5 (A3 (A1 (B1 (A8 (B0 ?_)))))
  have hb : ¬ (t.OK ∧ r.OK) := (fun e => by have e1 := e.1; have e2 := e.2; first | exact h1_1 e1 | exact h1_5 e2)
  refine E0 (A6 (A7 rfl (by exact Q0) j2 kb rfl) (A6 (A7 rfl (by exact Q0) j2 kb rfl) (A6 rfl A9))) (by (repeat first | exact Ch.refl _ | exact rc | refine Ch.trans ?_ hc3 | refine Ch.trans ?_ hc1 | refine Ch.upd ?_ | refine Ch.app ?_)) ?_
  rw [O3 hb]
  exact ⟨.nsl, .nsl, _, rfl, TabV.zero _ _ _, fun a ha => (by (simp (disch := (first | omega | assumption)) only [↓appC, ↓updN, ↓updS, ↓app0])), by omega⟩
theorem o27ff (t : Tb) (B : Nat → Bool) (hN : NilOK t B false false) (now : Int) (r : Rq) {h : Heap} {n : Nat} : OpenM En 27 [.agg [.int .i64 t.tm, .int .i64 t.nx, .nsl, .nsl], .int .i64 now, .agg [.int .i64 r.cl, .int .i64 r.st, .int .i64 r.kd, .int .i64 r.le, .str r.nm]] h n (fun v g m => ∃ Sl Ss W, v = .tup [.agg [.int .i64 (apA t now r).1.tm, .int .i64 (apA t now r).1.nx, Sl, Ss], .agg (apA t now r).2.1.V, .int .i64 (apA t now r).2.2] ∧ TabV (apA t now r).1 Sl Ss W g n m ∧ (∀ a, a < n → g a = h a) ∧ n ≤ m) := by
 refine OpenM.of_wp Try.func27 rfl kb ?_
 refine A2 (A0 ?_)
 (refine K7 (u := .agg [.int .i64 t.tm, .int .i64 t.nx, .nsl, .nsl]) j3 rfl j3 ?_)
 refine K7 (u := .agg [.int _ _, .int _ _, .int _ _, .int _ _, .str _]) j3 rfl j3 (H3 j6 (H3 j6 (D1 j5 (A3 (A1 (A2 (B4 (A2 (A0 ?_)))))))))
 (apply F7 (vs := [.int _ _, .int _ _, _, _]) j2; exact Q0; exact C8; rfl; exact kb; rfl; exact j3)
 refine F3 (Pure.ofN hN (p23 t false false false)) rfl j5 ?_ ?_ <;> intro h1_1
 ·refine E1 (c := true) j5 (C7 j5 ?_)
  (apply F7 (vs := [.int _ _, .int _ _, .int _ _, .int _ _, .str _]) j2; exact Q0; exact C8; rfl; exact kb; rfl; exact j3)
  refine F3 (p26 r) rfl j5 ?_ ?_ <;> intro h1_5
  ·refine E1 (c := true) j5 (B7 (e := false) j6 (C3 j5 (A3 (A1 (wF rfl (A2 (A0 (B5 j5 ?_))))))))
   refine F3 (s59 now) rfl j5 ?_ ?_ <;> intro h3_1
   ·refine E1 (c := true) j5 (C3 j5 (A3 (A1 (wF rfl (A2 (A0 (C2 (off := 1) (s := 1) (r := false) j3 kz j3 ?_)))))))
    (apply C6 (v := .int _ _) j2; exact Q0; exact C8; exact j5)
    refine V9 j6 ?_ ?_ <;> intro h5_2
    ·refine C3 j5 (A3 (A1 (wT rfl (A2 (A0 ?_)))))
     (apply F7 (vs := [.int _ _, .int _ _, _, _]) j2; exact Q0; exact C8; rfl; exact kb; rfl; exact j3)
     refine L4 (o49N t B false false false hN (by have := h1_1.2.2.1; omega) (fun i hi => by have := OKw h1_1 hi; omega) (by have := h1_1.2.2.2.1; omega)) rfl j5 ?_
     rintro _ g1 m1 ⟨Sl1, Ss1, W1, rfl, TV, fr1, le1⟩ hc1 hl1
     have kcl1 := TV.kl.cell
     have kcs1 := TV.ks.cell
     have q1 : g1 (n + 1) = some ⟨[[.int .i64 r.cl, .int .i64 r.st, .int .i64 r.kd, .int .i64 r.le, .str r.nm]], 5, 64⟩ := by rw [fr1 (n + 1) (by omega)]; (simp (disch := (first | omega | assumption)) only [↓appC, ↓updN, ↓updS, ↓app0]); rfl
     have q2 : g1 (n + 1 + 1) = some ⟨[[.int .i64 0, .int .i64 0, .nsl, .nsl]], 4, 35⟩ := by rw [fr1 (n + 1 + 1) (by omega)]; (simp (disch := (first | omega | assumption)) only [↓appC, ↓updN, ↓updS, ↓app0]); rfl
     have q3 : g1 (n + 1 + 1 + 1) = some ⟨[[.int .i64 0, .int .i64 0, .int .i64 0, .int .i64 0]], 4, 60⟩ := by rw [fr1 (n + 1 + 1 + 1) (by omega)]; (simp (disch := (first | omega | assumption)) only [↓appC, ↓updN, ↓updS, ↓app0]); rfl
     have qk : ∀ a, a < n → g1 a = h a := fun a ha => by rw [fr1 a (by omega)]; (simp (disch := (first | omega | assumption)) only [↓appC, ↓updN, ↓updS, ↓app0])
     refine N0 (cs := [.int _ _, .int _ _, .int _ _, .int _ _]) j5 ?_
     (apply D6 (u := .agg [.int _ _, .int _ _, _, _]) j3; exact Q0; exact C8; rfl; rfl; rfl; exact Q7; exact kb; rfl; exact j2)
     (apply D6 (u := .agg [.int _ _, .int _ _, .int _ _, .int _ _]) j3; exact Q0; exact C8; rfl; rfl; rfl; exact Q7; exact kb; rfl; exact j2)
     refine D1 j5 (A3 (A1 (B1 (A8 (B0 (E0 (A6 (A7 rfl (by exact Q0) j2 kb rfl) (A6 (A7 rfl (by exact Q0) j2 kb rfl) (A6 rfl A9))) (by (repeat first | exact Ch.refl _ | exact rc | refine Ch.trans ?_ hc3 | refine Ch.trans ?_ hc1 | refine Ch.upd ?_ | refine Ch.app ?_)) ?_))))))
     rw [Z0 ⟨h1_1, h1_5⟩ h3_1 h5_2]
     exact ⟨Sl1, Ss1, W1, rfl, (TV.keep (Nat.le_refl _) (fun a h1 h2 => by (simp (disch := (first | omega | assumption)) only [↓appC, ↓updN, ↓updS, ↓app0]))).low (by omega), fun a ha => (by (simp (disch := (first | omega | assumption)) only [↓appC, ↓updN, ↓updS, ↓app0]); exact qk a ha), by omega⟩
    ·refine C3 j5 (A3 (A1 (wF rfl (B2 (C0 (A1 (A2 (A0 ?_))))))))
     (apply F7 (vs := [.int _ _, .int _ _, _, _]) j2; exact Q0; exact C8; rfl; exact kb; rfl; exact j3)
     refine L4 (o49N t B false false false hN (by have := h1_1.2.2.1; omega) (fun i hi => by have := OKw h1_1 hi; omega) (by have := h1_1.2.2.2.1; omega)) rfl j5 ?_
     rintro _ g1 m1 ⟨Sl1, Ss1, W1, rfl, TV, fr1, le1⟩ hc1 hl1
     have kcl1 := TV.kl.cell
     have kcs1 := TV.ks.cell
     have q1 : g1 (n + 1) = some ⟨[[.int .i64 r.cl, .int .i64 r.st, .int .i64 r.kd, .int .i64 r.le, .str r.nm]], 5, 64⟩ := by rw [fr1 (n + 1) (by omega)]; (simp (disch := (first | omega | assumption)) only [↓appC, ↓updN, ↓updS, ↓app0]); rfl
     have q2 : g1 (n + 1 + 1) = some ⟨[[.int .i64 0, .int .i64 0, .nsl, .nsl]], 4, 35⟩ := by rw [fr1 (n + 1 + 1) (by omega)]; (simp (disch := (first | omega | assumption)) only [↓appC, ↓updN, ↓updS, ↓app0]); rfl
     have q3 : g1 (n + 1 + 1 + 1) = some ⟨[[.int .i64 0, .int .i64 0, .int .i64 0, .int .i64 0]], 4, 60⟩ := by rw [fr1 (n + 1 + 1 + 1) (by omega)]; (simp (disch := (first | omega | assumption)) only [↓appC, ↓updN, ↓updS, ↓app0]); rfl
     have qk : ∀ a, a < n → g1 a = h a := fun a ha => by rw [fr1 a (by omega)]; (simp (disch := (first | omega | assumption)) only [↓appC, ↓updN, ↓updS, ↓app0])
     refine H3 j6 ?_
     (apply D6 (u := .agg [.int _ _, .int _ _, _, _]) j3; exact Q0; exact C8; rfl; rfl; rfl; exact Q7; exact kb; rfl; exact j2)
     refine A3 (A1 (A2 ?_))
     refine Z2 fun g2 hg2 => ?_
     have bq := Bq.of h1_1 h1_5 h3_1 (by omega)
     have T1 : TabM t m1 Sl1 Ss1 W1 g2 (m1 + 1) := TV.toM ⟨by omega, .inl (Nat.le_refl _)⟩ (by omega) (by rw [hg2]; (simp (disch := (first | omega | assumption)) only [↓appC, ↓updN, ↓updS, ↓app0]); rfl) (fun a h1 h2 => by rw [hg2]; (simp (disch := (first | omega | assumption)) only [↓appC, ↓updN, ↓updS, ↓app0]))
     have r1 : g2 (n + 1) = some ⟨[[.int .i64 r.cl, .int .i64 r.st, .int .i64 r.kd, .int .i64 r.le, .str r.nm]], 5, 64⟩ := by rw [hg2]; (simp (disch := (first | omega | assumption)) only [↓appC, ↓updN, ↓updS, ↓app0]); exact q1
     have r2 : g2 (n + 1 + 1) = some ⟨[[.int .i64 0, .int .i64 0, .nsl, .nsl]], 4, 35⟩ := by rw [hg2]; (simp (disch := (first | omega | assumption)) only [↓appC, ↓updN, ↓updS, ↓app0]); exact q2
     have r3 : g2 (n + 1 + 1 + 1) = some ⟨[[.int .i64 0, .int .i64 0, .int .i64 0, .int .i64 0]], 4, 60⟩ := by rw [hg2]; (simp (disch := (first | omega | assumption)) only [↓appC, ↓updN, ↓updS, ↓app0]); exact q3
     have rk : ∀ a, a < n → g2 a = h a := fun a ha => by rw [hg2]; (simp (disch := (first | omega | assumption)) only [↓appC, ↓updN, ↓updS, ↓app0]); exact qk a ha
     have rc : Ch h g2 := by rw [hg2]; (repeat first | exact Ch.refl _ | refine Ch.trans ?_ hc1 | refine Ch.upd ?_ | refine Ch.app ?_)
     refine A0 (B5 j5 ?_)
     (apply F7 (vs := [.int _ _, .int _ _, .int _ _, .int _ _, .str _]) j2; exact Q0; exact C8; rfl; exact kb; rfl; exact j3)
     refine L4 (o71 t now r bq T1) rfl j5 ?_
     rintro _ g3 m3 ⟨rfl, S3⟩ hc3 hl3
     obtain ⟨Sl2, Ss2, W2, T2, x1, x2, x3⟩ := S3
     have hO1 : ∀ a, OwnT m1 Sl1 Ss1 W1 t.lk.length a → n + 1 + 1 + 1 + 1 ≤ a := fun a o => by have := TV.ownM a o; omega
     have hO : ∀ a, OwnT m1 Sl2 Ss2 W2 (rqT t now r).1.lk.length a → n + 1 + 1 + 1 + 1 ≤ a := fun a o => (x1 a o).elim (fun e => hO1 a e) (fun e => by omega)
     have kcl2 := T2.kl.cell
     have kcs2 := T2.ks.cell
     have kid2 : g3 m1 = some ⟨[[.int .i64 (rqT t now r).1.tm, .int .i64 (rqT t now r).1.nx, Sl2, Ss2]], 4, 35⟩ := T2.kid
     have p2 : g3 (n + 1 + 1) = some ⟨[[.int .i64 0, .int .i64 0, .nsl, .nsl]], 4, 35⟩ := by rw [x2 (n + 1 + 1) (by omega) (fun o => by have := hO1 _ o; omega)]; exact r2
     have p3 : g3 (n + 1 + 1 + 1) = some ⟨[[.int .i64 0, .int .i64 0, .int .i64 0, .int .i64 0]], 4, 60⟩ := by rw [x2 (n + 1 + 1 + 1) (by omega) (fun o => by have := hO1 _ o; omega)]; exact r3
     have pk : ∀ a, a < n → g3 a = h a := fun a ha => by rw [x2 a (by omega) (fun o => by have := hO1 _ o; omega)]; exact rk a ha
     refine H3 j6 ?_
     (apply D6 (u := .agg [.int _ _, .int _ _, .int _ _, .int _ _]) j3; exact Q0; exact C8; rfl; rfl; rfl; exact Q7; exact kb; rfl; exact j2)
     refine A3 (A1 (A2 (B9 [0, 0, 1, 7, 15] rfl (by decide +kernel) ?_)))
     (apply L8 (vs := [.int _ _, .int _ _, _, _]) j2; exact Q0; exact C8; rfl; exact kb; exact j4)
     (apply L8 (vs := [.int _ _, .int _ _, .int _ _, .int _ _]) j2; exact Q0; exact C8; rfl; exact kb; exact j4)
     (apply dst (u := .agg [.int _ _, .int _ _, _, _]) rfl rfl rfl; exact Q0; exact C8; rfl; rfl; rfl; exact Q7; exact kb; rfl; rfl; rfl)
     (apply dst (u := .agg [.int _ _, .int _ _, .int _ _, .int _ _]) rfl rfl rfl; exact Q0; exact C8; rfl; rfl; rfl; exact Q7; exact kb; rfl; rfl; rfl)
     refine daI j5 (B3 5 [0, 3, 3, 1, 1] [(1, 2)] j2 (by decide +kernel) ?_ ?_)
     ·(simp [ClearL, ids]; try omega)
     refine A1 (B1 (E0 (A6 (A7 rfl (by exact Q0) j2 kb rfl) (A6 (A7 rfl (by exact Q0) j2 kb rfl) (A6 rfl A9))) (by (repeat first | exact Ch.refl _ | exact rc | refine Ch.trans ?_ hc3 | refine Ch.trans ?_ hc1 | refine Ch.upd ?_ | refine Ch.app ?_)) ?_))
     rw [BU ⟨h1_1, h1_5⟩ h3_1 h5_2]
     exact ⟨Sl2, Ss2, W2, rfl, ((T2.toV (n0 := n + 1 + 1 + 1 + 1) hO).keep (m := m3 + 1) (by omega) (fun a h1 h2 => by (simp (disch := (first | omega | assumption)) only [↓appC, ↓updN, ↓updS, ↓app0]))).low (by omega), fun a ha => (by (simp (disch := (first | omega | assumption)) only [↓appC, ↓updN, ↓updS, ↓app0]); exact pk a ha), by omega⟩
   ·refine E1 (c := false) j5 (C3 j5 (A3 (A1 (wT rfl (A2 (A0 (N0 (cs := [.int _ _, .int _ _, _, _]) j5 (N0 (cs := [.int _ _, .int _ _, .int _ _, .int _ _]) j5 ?_))))))))
    (apply D6 (u := .agg [.int _ _, .int _ _, _, _]) j3; exact Q0; exact C8; rfl; rfl; rfl; exact Q7; exact kb; rfl; exact j2)
    (apply D6 (u := .agg [.int _ _, .int _ _, .int _ _, .int _ _]) j3; exact Q0; exact C8; rfl; rfl; rfl; exact Q7; exact kb; rfl; exact j2)
    refine D1 j5 (A3 (A1 (B1 (A8 (B0 (E0 (A6 (A7 rfl (by exact Q0) j2 kb rfl) (A6 (A7 rfl (by exact Q0) j2 kb rfl) (A6 rfl A9))) (by (repeat first | exact Ch.refl _ | exact rc | refine Ch.trans ?_ hc3 | refine Ch.trans ?_ hc1 | refine Ch.upd ?_ | refine Ch.app ?_)) ?_))))))
    rw [BC ⟨h1_1, h1_5⟩ h3_1]
    exact ⟨.nsl, .nsl, _, rfl, TabV.zero _ _ _, fun a ha => (by (simp (disch := (first | omega | assumption)) only [↓appC, ↓updN, ↓updS, ↓app0])), by omega⟩
  ·refine E1 (c := false) j5 (B7 (e := true) j6 (C3 j5 (A3 (A1 (wT rfl (A2 (A0 (N0 (cs := [.int _ _, .int _ _, _, _]) j5 (N0 (cs := [.int _ _, .int _ _, .int _ _, .int _ _]) j5 ?_)))))))))
   (apply D6 (u := .agg [.int _ _, .int _ _, _, _]) j3; exact Q0; exact C8; rfl; rfl; rfl; exact Q7; exact kb; rfl; exact j2)
   (apply D6 (u := .agg [.int _ _, .int _ _, .int _ _, .int _ _]) j3; exact Q0; exact C8; rfl; rfl; rfl; exact Q7; exact kb; rfl; exact j2)
   refine D1 j5 (A3 (A1 (B1 (A8 (B0 ?_)))))
   have hb : ¬ (t.OK ∧ r.OK) := (fun e => by have e1 := e.1; have e2 := e.2; first | exact h1_1 e1 | exact h1_5 e2)
   refine E0 (A6 (A7 rfl (by exact Q0) j2 kb rfl) (A6 (A7 rfl (by exact Q0) j2 kb rfl) (A6 rfl A9))) (by (repeat first | exact Ch.refl _ | exact rc | refine Ch.trans ?_ hc3 | refine Ch.trans ?_ hc1 | refine Ch.upd ?_ | refine Ch.app ?_)) ?_
   rw [O3 hb]
   exact ⟨.nsl, .nsl, _, rfl, TabV.zero _ _ _, fun a ha => (by (simp (disch := (first | omega | assumption)) only [↓appC, ↓updN, ↓updS, ↓app0])), by omega⟩
 ·refine E1 (c := false) j5 (C7 j5 (A4 j3 (A4 j3 (A4 j3 (B7 (e := true) j6 (C3 j5 (A3 (A1 (wT rfl (A2 (A0 (N0 (cs := [.int _ _, .int _ _, _, _]) j5 ?_))))))))))))
  refine N0 (cs := [.int _ _, .int _ _, .int _ _, .int _ _]) j5 ?_
  (apply D6 (u := .agg [.int _ _, .int _ _, _, _]) j3; exact Q0; exact C8; rfl; rfl; rfl; exact Q7; exact kb; rfl; exact j2)
  (apply D6 (u := .agg [.int _ _, .int _ _, .int _ _, .int _ _]) j3; exact Q0; exact C8; rfl; rfl; rfl; exact Q7; exact kb; rfl; exact j2)
  refine D1 j5 (A3 (A1 (B1 (A8 (B0 ?_)))))
  have hb : ¬ (t.OK ∧ r.OK) := (fun e => by have e1 := e.1; have e2 := e.2; first | exact h1_1 e1 | exact h1_5 e2)
  refine E0 (A6 (A7 rfl (by exact Q0) j2 kb rfl) (A6 (A7 rfl (by exact Q0) j2 kb rfl) (A6 rfl A9))) (by (repeat first | exact Ch.refl _ | exact rc | refine Ch.trans ?_ hc3 | refine Ch.trans ?_ hc1 | refine Ch.upd ?_ | refine Ch.app ?_)) ?_
  rw [O3 hb]
  exact ⟨.nsl, .nsl, _, rfl, TabV.zero _ _ _, fun a ha => (by (simp (disch := (first | omega | assumption)) only [↓appC, ↓updN, ↓updS, ↓app0])), by omega⟩
theorem o27N (t : Tb) (B : Nat → Bool) (b1 b2 : Bool) (hN : NilOK t B b1 b2) (now : Int) (r : Rq) {h : Heap} {n : Nat} : OpenM En 27 [.agg [.int .i64 t.tm, .int .i64 t.nx, T.toV false (nlT b1 (lksN B t.lk)), T.toV false (nlT b2 (t.sn.map Sn.T))], .int .i64 now, .agg [.int .i64 r.cl, .int .i64 r.st, .int .i64 r.kd, .int .i64 r.le, .str r.nm]] h n (fun v g m => ∃ Sl Ss W, v = .tup [.agg [.int .i64 (apA t now r).1.tm, .int .i64 (apA t now r).1.nx, Sl, Ss], .agg (apA t now r).2.1.V, .int .i64 (apA t now r).2.2] ∧ TabV (apA t now r).1 Sl Ss W g n m ∧ (∀ a, a < n → g a = h a) ∧ n ≤ m) := by
 cases b1 <;> cases b2
 ·exact o27ff t B hN now r
 ·exact o27ft t B hN now r
 ·exact o27tf t B hN now r
 ·exact o27tt t B hN now r
open Go.V
set_option linter.unusedVariables false
set_option linter.unusedSimpArgs false
set_option maxRecDepth 20000
set_option maxHeartbeats 4000000
open Go.V
set_option linter.unusedVariables false
set_option linter.unusedSimpArgs false
set_option maxRecDepth 20000
set_option maxHeartbeats 4000000
end Go.Proofs.Ytknnniaoboaghaa
