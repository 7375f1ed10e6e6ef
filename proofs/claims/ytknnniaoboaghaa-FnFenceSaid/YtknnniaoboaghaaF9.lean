import Derived.Test.YtknnniaoboaghaaF8
namespace Go.Proofs.Ytknnniaoboaghaa
open Go.V
set_option linter.unusedVariables false
set_option linter.unusedSimpArgs false
set_option maxRecDepth 20000
set_option maxHeartbeats 4000000
theorem OpenM.conv {E : Env} {f : FuncId} {args : List V} {h : Heap} {n : Nat} {Φ Ψ : V → Heap → Nat → Prop} (H : OpenM E f args h n Φ) (k : ∀ v g m, Φ v g m → Ψ v g m) : OpenM E f args h n Ψ := H.mono fun v g m _ x => k v g m x
theorem o60s (t : Tb) (now : Int) (hM : 0 ≤ max t.tm now ∧ max t.tm now ≤ 1000000000) (hn : 0 ≤ t.nx ∧ t.nx ≤ 999900) (hL : t.lk.length ≤ 100) (hwl : ∀ j, j < t.lk.length → ∀ i, i < (t.lk.getD j Lk0).ws.length → 1 ≤ ((t.lk.getD j Lk0).ws.getD i (0, 0)).2 ∧ ((t.lk.getD j Lk0).ws.getD i (0, 0)).2 ≤ 1000)
  {id : Nat} {Sl Ss : V} {W : Nat → V} {h : Heap} {n : Nat} (T : TabM t id Sl Ss W h n) : OpenM En 60 [.ptr id 0 0, .int .i64 now] h n (fun v g m => v = .tup [] ∧ TabS (exT t now) id (OwnT id Sl Ss W t.lk.length) n h g m) := by
 refine OpenM.conv (o60m t now hM hn hL hwl T) ?_
 rintro v g m ⟨rfl, W1, T1, f1, f2, f3⟩
 have hl : (exT t now).lk.length = t.lk.length := N3 _ _ _
 refine ⟨rfl, Sl, Ss, W1, T1, fun a o => ?_, f2, f3⟩
 rcases o with h | h | h | ⟨i, hi, h⟩
 ·exact .inl (.inl h)
 ·exact .inl (.inr (.inl h))
 ·exact .inl (.inr (.inr (.inl h)))
 ·rw [hl] at hi
  rcases f1 i a hi h with h2 | h2
  ·exact .inl (.inr (.inr (.inr ⟨i, hi, h2⟩)))
  ·exact .inr h2
theorem TabS.comp {t2 : Tb} {id : Nat} {F : Nat → Prop} {n n2 m2 k : Nat} {h g1 h2 g2 : Heap} {Sl1 Ss1 : V} {W1 : Nat → V} (s1 : ∀ a, OwnT id Sl1 Ss1 W1 k a → F a ∨ n ≤ a) (s2 : ∀ a, a < n → ¬ F a → g1 a = h a) (hn : n ≤ n2) (e : ∀ a, a < n → h2 a = g1 a)
  (S2 : TabS t2 id (OwnT id Sl1 Ss1 W1 k) n2 h2 g2 m2) : TabS t2 id F n h g2 m2 := by
 obtain ⟨Sl, Ss, W, T, x1, x2, x3⟩ := S2
 refine ⟨Sl, Ss, W, T, fun a o => ?_, fun a ha hna => ?_, by omega⟩
 ·rcases x1 a o with q | q
  ·exact s1 a q
  ·exact .inr (by omega)
 ·have hno : ¬ OwnT id Sl1 Ss1 W1 k a := fun o => (s1 a o).elim hna (fun q => by omega)
  rw [x2 a (by omega) hno, e a ha, s2 a ha hna]
theorem TabM.snS2 {t : Tb} {id : Nat} {Sl Ss : V} {W : Nat → V} {h g : Heap} {n0 n m : Nat} (T : TabM t id Sl Ss W h n) (sn : List Sn) (Ss' : V) (h0 : n0 ≤ n) (hnm : n ≤ m) (g1 : g id = some ⟨[[.int .i64 t.tm, .int .i64 t.nx, Sl, Ss']], 4, 35⟩)
  (g2 : IsZ g Ss' (sn.map Sn.V) 6 115) (g4 : ∀ a, fpV Ss' = some a → a < m ∧ (fpV Ss = some a ∨ n ≤ a)) (g5 : ∀ a, OwnT id Sl Ss W t.lk.length a → a ≠ id → fpV Ss ≠ some a → g a = h a) (g6 : ∀ a, a < n0 → a ≠ id → fpV Ss ≠ some a → g a = h a) : TabS ⟨t.tm, t.nx, t.lk, sn⟩ id (OwnT id Sl Ss W t.lk.length) n0 h g m := by
 refine ⟨Sl, Ss', W, T.setSn sn Ss' hnm g1 g2 g4 g5, fun a o => ?_, fun a ha hna => g6 a ha (fun e => hna (.inl e)) (fun e => hna (.inr (.inr (.inl e)))), by omega⟩
 rcases o with h | h | h | h
 ·exact .inl (.inl h)
 ·exact .inl (.inr (.inl h))
 ·rcases (g4 a h).2 with q | q
  ·exact .inl (.inr (.inr (.inl q)))
  ·exact .inr (by omega)
 ·exact .inl (.inr (.inr (.inr h)))
theorem acqL_sn (t : Tb) (k : Nat) (r : Rq) : (acqL t k r).1.sn = t.sn := by unfold acqL; repeat (first | rfl | split)
theorem BF (t : Tb) (r : Rq) : (doT t r).1.sn = t.sn := by
 unfold doT
 split
 ·unfold acqT
  split
  ·exact acqL_sn _ _ _
  ·split <;> rfl
 ·split
  ·unfold doL; repeat (first | rfl | split)
  ·rfl
theorem reqT_same {t : Tb} {r : Rq} (h : snH r.cl t.sn) (h1 : (t.sn.getD (snP r.cl t.sn) Sn0).st = r.st) : reqT t r = (t, (t.sn.getD (snP r.cl t.sn) Sn0).an) := if_pos ⟨h, h1⟩
theorem reqT_old {t : Tb} {r : Rq} (h : snH r.cl t.sn) (h1 : ¬ (t.sn.getD (snP r.cl t.sn) Sn0).st = r.st) (h2 : (t.sn.getD (snP r.cl t.sn) Sn0).st > r.st) : reqT t r = (t, bareA 7) := by unfold reqT; rw [if_neg (fun e => h1 e.2), if_pos ⟨h, h2⟩]
theorem Y6 {t : Tb} {r : Rq} (h : ¬ snH r.cl t.sn) (h1 : t.sn.length = 6) : reqT t r = (t, bareA 6) := by unfold reqT; rw [if_neg (fun e => h e.1), if_neg (fun e => h e.1), if_pos ⟨h, h1⟩]
theorem X6 {t : Tb} {r : Rq} (h : ¬ snH r.cl t.sn) (h1 : ¬ t.sn.length = 6) : reqT t r = (⟨(doT t r).1.tm, (doT t r).1.nx, (doT t r).1.lk, insL t.sn (snP r.cl t.sn) ⟨r.cl, r.st, (doT t r).2⟩⟩, (doT t r).2) := by
 unfold reqT; rw [if_neg (fun e => h e.1), if_neg (fun e => h e.1), if_neg (fun e => h1 e.2), if_neg h]
theorem U5 {t : Tb} {r : Rq} (h : snH r.cl t.sn) (h1 : ¬ (t.sn.getD (snP r.cl t.sn) Sn0).st = r.st) (h2 : ¬ (t.sn.getD (snP r.cl t.sn) Sn0).st > r.st) : reqT t r = (⟨(doT t r).1.tm, (doT t r).1.nx, (doT t r).1.lk, t.sn.set (snP r.cl t.sn) ⟨r.cl, r.st, (doT t r).2⟩⟩, (doT t r).2) := by
 unfold reqT; rw [if_neg (fun e => h1 e.2), if_neg (fun e => h2 e.2), if_neg (fun e => e.1 h), if_pos h]
theorem P6 {L : List Sn} {k : Nat} (h : k < L.length) : (L.map Sn.V)[k]? = some (L.getD k Sn0).V := D8 Sn.V Sn0 h
theorem lenZ {h : Heap} {v : V} {rows : List (List V)} {sz ty : Nat} (k : IsZ h v rows sz ty) : lenV v = some rows.length := by
 rcases k with ⟨rfl, rfl⟩ | ⟨id, rfl, _⟩ <;> rfl
theorem o112x (L : List Sn) (s : Sn) (i : Nat) (hi : i ≤ L.length) (hL : L.length ≤ 900) {Ss : V} {vb : Nat} {h : Heap} {n : Nat} (k0 : IsZ h Ss (L.map Sn.V) 6 115) (hs : ∀ a, fpV Ss = some a → a < n ∧ a ≠ vb) (hv : vb < n) (k1 : h vb = some ⟨[s.V], 6, 115⟩) :
  ∃ z : Nat, (z = n ∨ fpV Ss = some z) ∧ V.Open En 112 [Ss, .int .i64 i, .view vb 0 1] h n (.view n 0 (L.length + 1)) [(z, none), (n, some ⟨(insL L i s).map Sn.V, 6, 115⟩)] (n + 1) := by
 refine ⟨idV n Ss, ?_, o112z L s i hi hL k0 hs hv k1⟩
 unfold idV
 cases h2 : fpV Ss with
 | none => exact .inl rfl
 | some a => exact .inr rfl
structure Bq (t : Tb) (now : Int) (r : Rq) : Prop where
 bd : Bd (exT t now) r
 hM : 0 ≤ max t.tm now ∧ max t.tm now ≤ 1000000000
 hn : 0 ≤ t.nx ∧ t.nx ≤ 999900
 hL : t.lk.length ≤ 100
 hwl : ∀ j, j < t.lk.length → ∀ i, i < (t.lk.getD j Lk0).ws.length → 1 ≤ ((t.lk.getD j Lk0).ws.getD i (0, 0)).2 ∧ ((t.lk.getD j Lk0).ws.getD i (0, 0)).2 ≤ 1000
 scl : ∀ j, j < t.sn.length → 0 ≤ (t.sn.getD j Sn0).cl ∧ (t.sn.getD j Sn0).cl ≤ 255
 srt : SrtS t.sn
 s6 : t.sn.length ≤ 6
theorem o71h (t : Tb) (now : Int) (r : Rq) (bq : Bq t now r) (hh :  snH r.cl t.sn) {k : Nat} (hp : snP r.cl t.sn = k) {id : Nat} {Sl Ss : V} {W : Nat → V} {h : Heap} {n : Nat} (T : TabM t id Sl Ss W h n) : OpenM En 71 [.ptr id 0 0, .int .i64 now, .agg [.int .i64 r.cl, .int .i64 r.st, .int .i64 r.kd, .int .i64 r.le, .str r.nm]] h n (fun v g m => v = .agg (rqT t now r).2.V ∧ TabS (rqT t now r).1 id (OwnT id Sl Ss W t.lk.length) n h g m) := by
 have hid := T.idn
 have hcl := bq.bd.cl
 have hs6 := bq.s6
 have hf := fun (Ss : V) (h : Heap) (n : Nat) => @o108z t.sn r.cl hcl bq.scl bq.srt (by omega) Ss h n
 rw [hp] at hf
 rw [decide_eq_true hh] at hf
 have hk : k < t.sn.length := by rw [← hp]; exact hh.1
 have hrow := P6 hk
 refine OpenM.of_wp Try.func71 rfl kb ?_
 refine A2 (A0 (L7 (u := .agg [.int _ _, .int _ _, .int _ _, .int _ _, .str _]) j3 rfl j3 (H3 j6 (A3 (A1 (A2 (A0 (D9 j5 (B6 j5 ?_)))))))))
 refine K9 (o60s t now bq.hM bq.hn bq.hL bq.hwl (T.ext (by omega) (fun a ha => by (simp (disch := (first | omega | assumption)) only [↓appC, ↓updN, ↓updS, ↓app0])))) rfl j5 ?_
 rintro _ g1 m1 ⟨rfl, S1⟩ hc1 hl1
 have S0 := S1
 obtain ⟨Sl1, Ss1, W1, T1, s1, s2, s3⟩ := S1
 obtain q1 : g1 n = some ⟨[[.int .i64 r.cl, .int .i64 r.st, .int .i64 r.kd, .int .i64 r.le, .str r.nm]], 5, 64⟩ := by
  rw [s2 n (by omega) (fun o => by have := T.lt o; omega)]
  (simp (disch := (first | omega | assumption)) only [↓appC, ↓updN, ↓updS, ↓app0]); rfl
 obtain q2 : g1 (n + 1) = some ⟨[[.int .i64 0, .int .i64 0, .int .i64 0, .int .i64 0]], 4, 60⟩ := by
  rw [s2 (n + 1) (by omega) (fun o => by have := T.lt o; omega)]
  (simp (disch := (first | omega | assumption)) only [↓appC, ↓updN, ↓updS, ↓app0]); rfl
 have kid1 : g1 id = some ⟨[[.int .i64 (exT t now).tm, .int .i64 (exT t now).nx, Sl1, Ss1]], 4, 35⟩ := T1.kid
 have ks1 : IsZ g1 Ss1 (t.sn.map Sn.V) 6 115 := T1.ks
 have kc1 := ks1.cell
 have hlen1 := lenZ ks1
 rw [List.length_map] at hlen1
 have hl1' : n + 2 ≤ m1 := hl1
 obtain ⟨sb, hsb, ksb⟩ := ks1.some (by rw [List.length_map]; omega)
 rw [List.length_map] at hsb
 subst hsb
 have hs1 := T1.fs sb rfl
 have hs2 := hs1.1; have hs3 := hs1.2.1
 refine A3 (A1 (A2 (C2 [0, 1, 3, 7, 0, 16, 63, 127, 255, 255, 511, 2047] rfl (by decide +kernel) ?_)))
 refine G6 j5 (G7 (v := .ptr _ _ _) j6 (D6 (off := 3) (s := 1) (r := false) j3 kz j3 ?_))
 (apply E1 (v := .view sb 0 t.sn.length) j2; exact kid1; rfl; exact j5)
 refine D6 (off := 0) (s := 1) (r := false) j3 kz j3 ?_
 (apply E1 (v := .int _ _) j2; exact Q0; exact C7; exact j5)
 refine dop (hf (.view sb 0 t.sn.length) _ _ (fun a ha => (T1.fs a ha).1) ks1) rfl rfl rfl rfl rfl rfl ?_
 refine dmT j5 (dex j6 (dex j6 (daI j5 (K3 j5 (B1 12 [0, 0, 0, 0, 0, 3, 1, 0, 1, 0, 0, 0] [] j2 (by decide +kernel) trivial ?_)))))
 refine A1 (A2 (B3 (A2 (C2 [0, 1, 3, 7, 15, 31, 3, 127, 255, 511, 3, 1027, 4095, 8191, 16383] rfl (by decide +kernel) ?_))))
 refine H8 j5 (H8 j5 (G6 j5 (G7 (v := .ptr _ _ _) j6 (D6 (off := 3) (s := 1) (r := false) j3 kz j3 ?_))))
 (apply E1 (v := .view sb 0 t.sn.length) j2; exact Q0; rfl; exact j5)
 refine I0 j5 ?_
 (refine d0 ((B9 (b := ⟨t.sn.map Sn.V, 6, 115⟩) rfl rfl rfl rfl (by exact Q0) rfl (by omega) (by omega)).to (v' := .ptr (sb) k 0) (by rw [F7])) rfl rfl rfl ?_)
 refine D6 (off := 1) (s := 1) (r := false) j3 kz j3 ?_
 (apply E1 (v := .int _ _) j2; exact Q0; exact C7; exact j5)
 refine D6 (off := 1) (s := 1) (r := false) j3 kz j3 ?_
 (apply E1 (v := .int _ _) j2; exact Q0; exact C7; exact j5)
 refine deq j6 ?_ ?_ <;> intro h3_12
 ·refine G5 (e := true) j6 (K3 j5 (B1 15 [0, 0, 0, 1, 0, 1, 0, 1, 0, 1, 0, 0, 0, 0, 0] [] j2 (by decide +kernel) trivial ?_))
  refine A1 (wT rfl (A2 (A0 (D9 j5 (F6 (v := .ptr _ _ _) j6 (C1 (off := 3) (s := 1) (r := false) j3 kz j3 ?_))))))
  (apply C5 (v := .view sb 0 t.sn.length) j2; exact Q0; rfl; exact j5)
  refine B6 j5 ?_
  (refine r0 ((B9 (b := ⟨t.sn.map Sn.V, 6, 115⟩) rfl rfl rfl rfl (by exact Q0) rfl (by omega) (by omega)).to (v' := .ptr (sb) k 0) (by rw [F7])) rfl rfl rfl ?_)
  refine C1 (off := 2) (s := 4) (r := true) j3 kz j3 ?_
  (apply F9 (vs := [.int _ _, .int _ _, .int _ _, .int _ _]) j2; exact Q0; exact C7; rfl; exact kb; rfl; exact j3)
  (apply D4 (u := .agg [.int _ _, .int _ _, .int _ _, .int _ _]) j3; exact Q0; exact C7; rfl; rfl; rfl; rfl; exact kb; rfl; exact j2)
  refine A3 (A1 (A9 (B4 (B2 (E0 (A5 (A7 rfl (by exact Q0) j2 kb rfl) A8) (by (repeat first | exact Ch.refl _ | refine Ch.trans ?_ hc2 | refine Ch.trans ?_ hc1 | refine Ch.upd ?_ | refine Ch.app ?_)) ?_)))))
  have e : rqT t now r = (exT t now, (t.sn.getD k Sn0).an) := by unfold rqT; rw [reqT_same (t := exT t now) hh (by show (t.sn.getD (snP r.cl t.sn) Sn0).st = r.st; rw [hp]; exact h3_12)]; show (_, (t.sn.getD (snP r.cl t.sn) Sn0).an) = _; rw [hp]
  rw [e]
  exact ⟨rfl, S0.out T.ownLt (by omega) (fun a ha => by (simp (disch := (first | omega | assumption)) only [↓appC, ↓updN, ↓updS, ↓app0])) (fun a ha => by (simp (disch := (first | omega | assumption)) only [↓appC, ↓updN, ↓updS, ↓app0])) (by omega)⟩
 ·refine G5 (e := false) j6 (K3 j5 (B1 15 [0, 0, 0, 1, 0, 1, 0, 1, 0, 1, 0, 0, 0, 0, 0] [] j2 (by decide +kernel) trivial ?_))
  refine A1 (wF rfl (A2 (C2 [0, 1, 3, 7, 15, 31, 3, 127, 255, 511, 3, 1027, 4095, 8191, 16383] rfl (by decide +kernel) ?_)))
  refine H8 j5 (H8 j5 (G6 j5 (G7 (v := .ptr _ _ _) j6 (D6 (off := 3) (s := 1) (r := false) j3 kz j3 ?_))))
  (apply E1 (v := .view sb 0 t.sn.length) j2; exact Q0; rfl; exact j5)
  refine I0 j5 ?_
  (refine d0 ((B9 (b := ⟨t.sn.map Sn.V, 6, 115⟩) rfl rfl rfl rfl (by exact Q0) rfl (by omega) (by omega)).to (v' := .ptr (sb) k 0) (by rw [F7])) rfl rfl rfl ?_)
  refine D6 (off := 1) (s := 1) (r := false) j3 kz j3 ?_
  (apply E1 (v := .int _ _) j2; exact Q0; exact C7; exact j5)
  refine D6 (off := 1) (s := 1) (r := false) j3 kz j3 ?_
  (apply E1 (v := .int _ _) j2; exact Q0; exact C7; exact j5)
  refine dgt j6 ?_ ?_ <;> intro h5_12
  ·refine G5 (e := true) j6 (K3 j5 (B1 15 [0, 0, 0, 1, 0, 1, 0, 1, 0, 1, 0, 0, 0, 0, 0] [] j2 (by decide +kernel) trivial ?_))
   refine A1 (wT rfl (A2 (A0 (AB (p110 _) rfl j5 ?_))))
   (apply D4 (u := .agg [.int _ _, .int _ _, .int _ _, .int _ _]) j3; exact Q0; exact C7; rfl; rfl; rfl; rfl; exact kb; rfl; exact j2)
   refine A3 (A1 (A9 (B4 (B2 (E0 (A5 (A7 rfl (by exact Q0) j2 kb rfl) A8) (by (repeat first | exact Ch.refl _ | refine Ch.trans ?_ hc2 | refine Ch.trans ?_ hc1 | refine Ch.upd ?_ | refine Ch.app ?_)) ?_)))))
   have e : rqT t now r = (exT t now, bareA 7) := by unfold rqT; exact reqT_old (t := exT t now) hh (by show ¬ (t.sn.getD (snP r.cl t.sn) Sn0).st = r.st; rw [hp]; exact h3_12) (by show (t.sn.getD (snP r.cl t.sn) Sn0).st > r.st; rw [hp]; exact h5_12)
   rw [e]
   exact ⟨rfl, S0.out T.ownLt (by omega) (fun a ha => by (simp (disch := (first | omega | assumption)) only [↓appC, ↓updN, ↓updS, ↓app0])) (fun a ha => by (simp (disch := (first | omega | assumption)) only [↓appC, ↓updN, ↓updS, ↓app0])) (by omega)⟩
  ·refine G5 (e := false) j6 (K3 j5 (B1 15 [0, 0, 0, 1, 0, 1, 0, 1, 0, 1, 0, 0, 0, 0, 0] [] j2 (by decide +kernel) trivial ?_))
   refine A1 (wF rfl (A2 (A0 (C4 j5 (D5 (c := true) j5 (C4 j5 (A4 j3 (A4 j3 (A4 j3 (A4 j3 (A4 j3 (A4 j3 ?_))))))))))))
   refine C0 (e := false) j6 (C6 j5 (A3 (A1 (wF rfl (B0 (B7 (A1 (A2 (A0 (D9 j5 ?_))))))))))
   (apply F9 (vs := [.int _ _, .int _ _, .int _ _, .int _ _, .str _]) j2; exact Q0; exact C7; rfl; exact kb; rfl; exact j3)
   refine K9 (o111 (exT t now) r bq.bd (T1.ext (by omega) (fun a ha => by first | rfl | (simp (disch := (first | omega | assumption)) only [↓appC, ↓updN, ↓updS, ↓app0])))) rfl j5 ?_
   rintro _ g2 m2 ⟨rfl, S2⟩ hc2 hl2
   have hn2 : ¬ OwnT id Sl1 (.view sb 0 t.sn.length) W1 (exT t now).lk.length n := fun o => (s1 n o).elim (fun e => by have := T.lt e; omega) (fun e => by omega)
   have hn3 : ¬ OwnT id Sl1 (.view sb 0 t.sn.length) W1 (exT t now).lk.length (n + 1) := fun o => (s1 (n + 1) o).elim (fun e => by have := T.lt e; omega) (fun e => by omega)
   have hn4 : ∀ a, a < n → g1 a = h a ∨ OwnT id Sl Ss W t.lk.length a := fun a ha => by
    by_cases o : OwnT id Sl Ss W t.lk.length a
    ·exact .inr o
    ·left; rw [s2 a (by omega) o]; (simp (disch := (first | omega | assumption)) only [↓appC, ↓updN, ↓updS, ↓app0])
   have S2' := S2
   obtain ⟨Sl2, Ss2, W2, T2, x1, x2, x3⟩ := S2'
   have q3 : g2 n = some ⟨[[.int .i64 r.cl, .int .i64 r.st, .int .i64 r.kd, .int .i64 r.le, .str r.nm]], 5, 64⟩ := by rw [x2 n (by omega) hn2]; exact q1
   have q4 : g2 (n + 1) = some ⟨[[.int .i64 0, .int .i64 0, .int .i64 0, .int .i64 0]], 4, 60⟩ := by rw [x2 (n + 1) (by omega) hn3]; exact q2
   have kid2 : g2 id = some ⟨[[.int .i64 (doT (exT t now) r).1.tm, .int .i64 (doT (exT t now) r).1.nx, Sl2, Ss2]], 4, 35⟩ := T2.kid
   have ks2 : IsZ g2 Ss2 (t.sn.map Sn.V) 6 115 := by have := T2.ks; rwa [BF] at this
   have kc2 := ks2.cell
   have hO : ∀ a, OwnT id Sl2 Ss2 W2 (doT (exT t now) r).1.lk.length a → a < n ∨ n + 2 ≤ a := fun a o => (x1 a o).elim (fun e => (s1 a e).elim (fun e => .inl (T.lt e)) (fun e => .inr e)) (fun e => .inr (by omega))
   have s1' : ∀ a, OwnT id Sl1 (.view sb 0 t.sn.length) W1 (exT t now).lk.length a → OwnT id Sl Ss W t.lk.length a ∨ n ≤ a := fun a o => (s1 a o).imp (fun e => e) (fun e => by omega)
   have s2' : ∀ a, a < n → ¬ OwnT id Sl Ss W t.lk.length a → g1 a = h a := fun a ha o => (hn4 a ha).elim (fun e => e) (fun e => absurd e o)
   have x1' : ∀ a, OwnT id Sl2 Ss2 W2 (doT (exT t now) r).1.lk.length a → OwnT id Sl1 (.view sb 0 t.sn.length) W1 (exT t now).lk.length a ∨ n ≤ a := fun a o => (x1 a o).imp (fun e => e) (fun e => by omega)
   have x2' : ∀ a, a < n → ¬ OwnT id Sl1 (.view sb 0 t.sn.length) W1 (exT t now).lk.length a → g2 a = g1 a := fun a ha o => x2 a (by omega) o
   obtain ⟨sb2, hsb2, ksb2⟩ := ks2.some (by rw [List.length_map]; omega)
   rw [List.length_map] at hsb2
   subst hsb2
   have hs4 := T2.fs sb2 rfl
   have hs5 := hs4.1; have hs6' := hs4.2.1
   have hs7 := hO sb2 (.inr (.inr (.inl rfl)))
   refine H3 j6 ?_
   (apply D4 (u := .agg [.int _ _, .int _ _, .int _ _, .int _ _]) j3; exact Q0; exact C7; rfl; rfl; rfl; rfl; exact kb; rfl; exact j2)
   refine A3 (A1 (A2 (A0 (C1 (off := 0) (s := 1) (r := false) j3 kz j3 ?_))))
   (apply C5 (v := .int _ _) j2; exact Q0; exact C7; exact j5)
   refine C1 (off := 1) (s := 1) (r := false) j3 kz j3 ?_
   (apply C5 (v := .int _ _) j2; exact Q0; exact C7; exact j5)
   (apply F9 (vs := [.int _ _, .int _ _, .int _ _, .int _ _]) j2; exact Q0; exact C7; rfl; exact kb; rfl; exact j3)
   refine L6 (cs := [.int _ _, .int _ _, .int _ _, .int _ _, .int _ _, .int _ _]) j5 (H3 j6 ?_)
   (apply D4 (u := .agg [.int _ _, .int _ _, .int _ _, .int _ _, .int _ _, .int _ _]) j3; exact Q0; exact C7; rfl; rfl; rfl; rfl; exact kb; rfl; exact j2)
   refine A3 (A1 (A2 (A2 (A0 (C4 j5 (A3 (A1 (wT rfl (C2 [0, 1, 3, 7, 0, 0, 63, 127] rfl (by decide +kernel) ?_)))))))))
   refine G6 j5 (G7 (v := .ptr _ _ _) j6 (D6 (off := 3) (s := 1) (r := false) j3 kz j3 ?_))
   (apply E1 (v := .view sb2 0 t.sn.length) j2; exact Q0; rfl; exact j5)
   refine I0 j5 ?_
   (apply L8 (vs := [.int _ _, .int _ _, .int _ _, .int _ _, .int _ _, .int _ _]) j2; exact Q0; exact C7; rfl; exact kb; exact j4)
   (refine d0 ((B9 (b := ⟨t.sn.map Sn.V, 6, 115⟩) rfl rfl rfl rfl (by exact Q0) rfl (by omega) (by omega)).to (v' := .ptr (sb2) k 0) (by rw [F7])) rfl rfl rfl ?_)
   (apply dst (u := .agg [.int _ _, .int _ _, .int _ _, .int _ _, .int _ _, .int _ _]) rfl rfl rfl; exact Q0; exact C7; rfl; rfl; rfl; rfl; exact kb; rfl; rfl; rfl)
   refine B1 8 [3, 1, 1, 0, 1, 0, 0, 0] [] j2 (by decide +kernel) trivial ?_
   refine A1 (A2 (A0 ?_))
   (apply F9 (vs := [.int _ _, .int _ _, .int _ _, .int _ _]) j2; exact Q0; exact C7; rfl; exact kb; rfl; exact j3)
   (apply D4 (u := .agg [.int _ _, .int _ _, .int _ _, .int _ _]) j3; exact Q0; exact C7; rfl; rfl; rfl; rfl; exact kb; rfl; exact j2)
   refine A3 (A1 (A9 (E0 (A5 (A7 rfl (by exact Q0) j2 kb rfl) A8) (by (repeat first | exact Ch.refl _ | refine Ch.trans ?_ hc2 | refine Ch.trans ?_ hc1 | refine Ch.upd ?_ | refine Ch.app ?_)) ?_)))
   have e : rqT t now r = (⟨(doT (exT t now) r).1.tm, (doT (exT t now) r).1.nx, (doT (exT t now) r).1.lk, t.sn.set k ⟨r.cl, r.st, (doT (exT t now) r).2⟩⟩, (doT (exT t now) r).2) := by
    unfold rqT; rw [U5 (t := exT t now) hh (by show ¬ (t.sn.getD (snP r.cl t.sn) Sn0).st = r.st; rw [hp]; exact h3_12) (by show ¬ (t.sn.getD (snP r.cl t.sn) Sn0).st > r.st; rw [hp]; exact h5_12)]
    show (Tb.mk _ _ _ (t.sn.set (snP r.cl t.sn) _), _) = _; rw [hp]
   rw [e]
   refine ⟨rfl, ?_⟩
   refine TabS.comp (n2 := n) s1' s2' (Nat.le_refl _) (fun _ _ => rfl) (TabS.comp (n2 := n) x1' x2' (Nat.le_refl _) (fun _ _ => rfl) (T2.snS2 (n0 := n) (t.sn.set k ⟨r.cl, r.st, (doT (exT t now) r).2⟩) (.view sb2 0 t.sn.length) (by omega) (by omega) ?_ (.inr ⟨sb2, by rw [List.length_map, List.length_set], ?_⟩) (fun a ha => ⟨by cases ha; omega, .inl ha⟩) (fun a o h1 h2 => ?_) (fun a ha h1 h2 => ?_)))
   ·exact Q0
   ·(simp (disch := (first | omega | assumption)) only [↓appC, ↓updN, ↓updS, ↓app0])
    exact congrArg (fun z => some (Blk.mk z 6 115)) (by rw [List.map_set]; rfl)
   ·have h3 : a ≠ sb2 := fun e => h2 (by rw [e]; rfl)
    have h4 := hO a o
    have h5 := T2.lt o
    (simp (disch := (first | omega | assumption)) only [↓appC, ↓updN, ↓updS, ↓app0])
   ·have h3 : a ≠ sb2 := fun e => h2 (by rw [e]; rfl)
    (simp (disch := (first | omega | assumption)) only [↓appC, ↓updN, ↓updS, ↓app0])
theorem o71x (t : Tb) (now : Int) (r : Rq) (bq : Bq t now r) (hh : ¬ snH r.cl t.sn) {k : Nat} (hp : snP r.cl t.sn = k) {id : Nat} {Sl Ss : V} {W : Nat → V} {h : Heap} {n : Nat} (T : TabM t id Sl Ss W h n) : OpenM En 71 [.ptr id 0 0, .int .i64 now, .agg [.int .i64 r.cl, .int .i64 r.st, .int .i64 r.kd, .int .i64 r.le, .str r.nm]] h n (fun v g m => v = .agg (rqT t now r).2.V ∧ TabS (rqT t now r).1 id (OwnT id Sl Ss W t.lk.length) n h g m) := by
 have hid := T.idn
 have hcl := bq.bd.cl
 have hs6 := bq.s6
 have hf := fun (Ss : V) (h : Heap) (n : Nat) => @o108z t.sn r.cl hcl bq.scl bq.srt (by omega) Ss h n
 rw [hp] at hf
 rw [decide_eq_false hh] at hf
 have hk : k ≤ t.sn.length := by rw [← hp]; exact snP_le _ _
 refine OpenM.of_wp Try.func71 rfl kb ?_
 refine A2 (A0 (L7 (u := .agg [.int _ _, .int _ _, .int _ _, .int _ _, .str _]) j3 rfl j3 (H3 j6 (A3 (A1 (A2 (A0 (D9 j5 (B6 j5 ?_)))))))))
 refine K9 (o60s t now bq.hM bq.hn bq.hL bq.hwl (T.ext (by omega) (fun a ha => by (simp (disch := (first | omega | assumption)) only [↓appC, ↓updN, ↓updS, ↓app0])))) rfl j5 ?_
 rintro _ g1 m1 ⟨rfl, S1⟩ hc1 hl1
 have S0 := S1
 obtain ⟨Sl1, Ss1, W1, T1, s1, s2, s3⟩ := S1
 obtain q1 : g1 n = some ⟨[[.int .i64 r.cl, .int .i64 r.st, .int .i64 r.kd, .int .i64 r.le, .str r.nm]], 5, 64⟩ := by
  rw [s2 n (by omega) (fun o => by have := T.lt o; omega)]
  (simp (disch := (first | omega | assumption)) only [↓appC, ↓updN, ↓updS, ↓app0]); rfl
 obtain q2 : g1 (n + 1) = some ⟨[[.int .i64 0, .int .i64 0, .int .i64 0, .int .i64 0]], 4, 60⟩ := by
  rw [s2 (n + 1) (by omega) (fun o => by have := T.lt o; omega)]
  (simp (disch := (first | omega | assumption)) only [↓appC, ↓updN, ↓updS, ↓app0]); rfl
 have kid1 : g1 id = some ⟨[[.int .i64 (exT t now).tm, .int .i64 (exT t now).nx, Sl1, Ss1]], 4, 35⟩ := T1.kid
 have ks1 : IsZ g1 Ss1 (t.sn.map Sn.V) 6 115 := T1.ks
 have kc1 := ks1.cell
 have hlen1 := lenZ ks1
 rw [List.length_map] at hlen1
 have hl1' : n + 2 ≤ m1 := hl1
 refine A3 (A1 (A2 (C2 [0, 1, 3, 7, 0, 16, 63, 127, 255, 255, 511, 2047] rfl (by decide +kernel) ?_)))
 refine G6 j5 (G7 (v := .ptr _ _ _) j6 (D6 (off := 3) (s := 1) (r := false) j3 kz j3 ?_))
 (apply E1 (v := Ss1) j2; exact kid1; rfl; exact j5)
 refine D6 (off := 0) (s := 1) (r := false) j3 kz j3 ?_
 (apply E1 (v := .int _ _) j2; exact Q0; exact C7; exact j5)
 refine dop (hf Ss1 _ _ (fun a ha => (T1.fs a ha).1) ks1) rfl rfl rfl rfl rfl rfl ?_
 refine dmT j5 (dex j6 (dex j6 (daI j5 (K3 j5 (B1 12 [0, 0, 0, 0, 0, 3, 1, 0, 1, 0, 0, 0] [] j2 (by decide +kernel) trivial ?_)))))
 refine A1 (A2 (B3 (A2 (C2 [0, 1, 3, 7, 15, 31, 3, 127, 255, 511, 3, 1027, 4095, 8191, 16383] rfl (by decide +kernel) ?_))))
 refine H8 j5 (H8 j5 (A6 j3 (A6 j3 (A6 j3 (A6 j3 (A6 j3 (A6 j3 (A6 j3 (A6 j3 (A6 j3 (A6 j3 (A6 j3 ?_))))))))))))
 refine G5 (e := false) j6 (K3 j5 (B1 15 [0, 0, 0, 0, 0, 0, 0, 0, 0, 0, 0, 0, 0, 0, 0] [] j2 (by decide +kernel) trivial ?_))
 refine A1 (wF rfl (A2 (C2 [0, 1, 3, 7, 15, 31, 3, 127, 255, 511, 3, 1027, 4095, 8191, 16383] rfl (by decide +kernel) ?_)))
 refine H8 j5 (H8 j5 (A6 j3 (A6 j3 (A6 j3 (A6 j3 (A6 j3 (A6 j3 (A6 j3 (A6 j3 (A6 j3 (A6 j3 (A6 j3 ?_))))))))))))
 refine G5 (e := false) j6 (K3 j5 (B1 15 [0, 0, 0, 0, 0, 0, 0, 0, 0, 0, 0, 0, 0, 0, 0] [] j2 (by decide +kernel) trivial ?_))
 refine A1 (wF rfl (A2 (A0 (C4 j5 (D5 (c := false) j5 (C4 j5 (D9 j5 (F6 (v := .ptr _ _ _) j6 (C1 (off := 3) (s := 1) (r := false) j3 kz j3 ?_)))))))))
 (apply C5 (v := Ss1) j2; exact Q0; rfl; exact j5)
 (refine H0 rfl rfl hlen1 j3 ?_)
 refine H5 j6 ?_ ?_ <;> intro h7_8
 ·refine C0 (e := true) j6 (C6 j5 (A3 (A1 (wT rfl (A2 (A0 (AB (p110 _) rfl j5 ?_)))))))
  (apply D4 (u := .agg [.int _ _, .int _ _, .int _ _, .int _ _]) j3; exact Q0; exact C7; rfl; rfl; rfl; rfl; exact kb; rfl; exact j2)
  refine A3 (A1 (A9 (B4 (B2 (E0 (A5 (A7 rfl (by exact Q0) j2 kb rfl) A8) (by (repeat first | exact Ch.refl _ | refine Ch.trans ?_ hc2 | refine Ch.trans ?_ hc1 | refine Ch.upd ?_ | refine Ch.app ?_)) ?_)))))
  have e : rqT t now r = (exT t now, bareA 6) := by unfold rqT; exact Y6 (t := exT t now) hh (by show t.sn.length = 6; omega)
  rw [e]
  exact ⟨rfl, S0.out T.ownLt (by omega) (fun a ha => by (simp (disch := (first | omega | assumption)) only [↓appC, ↓updN, ↓updS, ↓app0])) (fun a ha => by (simp (disch := (first | omega | assumption)) only [↓appC, ↓updN, ↓updS, ↓app0])) (by omega)⟩
 ·refine C0 (e := false) j6 (C6 j5 (A3 (A1 (wF rfl (B0 (B7 (A1 (A2 (A0 (D9 j5 ?_))))))))))
  (apply F9 (vs := [.int _ _, .int _ _, .int _ _, .int _ _, .str _]) j2; exact Q0; exact C7; rfl; exact kb; rfl; exact j3)
  refine K9 (o111 (exT t now) r bq.bd (T1.ext (by omega) (fun a ha => by first | rfl | (simp (disch := (first | omega | assumption)) only [↓appC, ↓updN, ↓updS, ↓app0])))) rfl j5 ?_
  rintro _ g2 m2 ⟨rfl, S2⟩ hc2 hl2
  have hn2 : ¬ OwnT id Sl1 Ss1 W1 (exT t now).lk.length n := fun o => (s1 n o).elim (fun e => by have := T.lt e; omega) (fun e => by omega)
  have hn3 : ¬ OwnT id Sl1 Ss1 W1 (exT t now).lk.length (n + 1) := fun o => (s1 (n + 1) o).elim (fun e => by have := T.lt e; omega) (fun e => by omega)
  have hn4 : ∀ a, a < n → g1 a = h a ∨ OwnT id Sl Ss W t.lk.length a := fun a ha => by
   by_cases o : OwnT id Sl Ss W t.lk.length a
   ·exact .inr o
   ·left; rw [s2 a (by omega) o]; (simp (disch := (first | omega | assumption)) only [↓appC, ↓updN, ↓updS, ↓app0])
  have S2' := S2
  obtain ⟨Sl2, Ss2, W2, T2, x1, x2, x3⟩ := S2'
  have q3 : g2 n = some ⟨[[.int .i64 r.cl, .int .i64 r.st, .int .i64 r.kd, .int .i64 r.le, .str r.nm]], 5, 64⟩ := by rw [x2 n (by omega) hn2]; exact q1
  have q4 : g2 (n + 1) = some ⟨[[.int .i64 0, .int .i64 0, .int .i64 0, .int .i64 0]], 4, 60⟩ := by rw [x2 (n + 1) (by omega) hn3]; exact q2
  have kid2 : g2 id = some ⟨[[.int .i64 (doT (exT t now) r).1.tm, .int .i64 (doT (exT t now) r).1.nx, Sl2, Ss2]], 4, 35⟩ := T2.kid
  have ks2 : IsZ g2 Ss2 (t.sn.map Sn.V) 6 115 := by have := T2.ks; rwa [BF] at this
  have kc2 := ks2.cell
  have hO : ∀ a, OwnT id Sl2 Ss2 W2 (doT (exT t now) r).1.lk.length a → a < n ∨ n + 2 ≤ a := fun a o => (x1 a o).elim (fun e => (s1 a e).elim (fun e => .inl (T.lt e)) (fun e => .inr e)) (fun e => .inr (by omega))
  have s1' : ∀ a, OwnT id Sl1 Ss1 W1 (exT t now).lk.length a → OwnT id Sl Ss W t.lk.length a ∨ n ≤ a := fun a o => (s1 a o).imp (fun e => e) (fun e => by omega)
  have s2' : ∀ a, a < n → ¬ OwnT id Sl Ss W t.lk.length a → g1 a = h a := fun a ha o => (hn4 a ha).elim (fun e => e) (fun e => absurd e o)
  have x1' : ∀ a, OwnT id Sl2 Ss2 W2 (doT (exT t now) r).1.lk.length a → OwnT id Sl1 Ss1 W1 (exT t now).lk.length a ∨ n ≤ a := fun a o => (x1 a o).imp (fun e => e) (fun e => by omega)
  have x2' : ∀ a, a < n → ¬ OwnT id Sl1 Ss1 W1 (exT t now).lk.length a → g2 a = g1 a := fun a ha o => x2 a (by omega) o
  refine H3 j6 ?_
  (apply D4 (u := .agg [.int _ _, .int _ _, .int _ _, .int _ _]) j3; exact Q0; exact C7; rfl; rfl; rfl; rfl; exact kb; rfl; exact j2)
  refine A3 (A1 (A2 (A0 (C1 (off := 0) (s := 1) (r := false) j3 kz j3 ?_))))
  (apply C5 (v := .int _ _) j2; exact Q0; exact C7; exact j5)
  refine C1 (off := 1) (s := 1) (r := false) j3 kz j3 ?_
  (apply C5 (v := .int _ _) j2; exact Q0; exact C7; exact j5)
  (apply F9 (vs := [.int _ _, .int _ _, .int _ _, .int _ _]) j2; exact Q0; exact C7; rfl; exact kb; rfl; exact j3)
  refine L6 (cs := [.int _ _, .int _ _, .int _ _, .int _ _, .int _ _, .int _ _]) j5 (H3 j6 ?_)
  (apply D4 (u := .agg [.int _ _, .int _ _, .int _ _, .int _ _, .int _ _, .int _ _]) j3; exact Q0; exact C7; rfl; rfl; rfl; rfl; exact kb; rfl; exact j2)
  refine A3 (A1 (A2 (A2 (A0 (C4 j5 (A3 (A1 (wF rfl (C2 [0, 0, 2, 6, 14, 0, 0, 64, 254, 511, 1023, 2047] rfl (by decide +kernel) ?_)))))))))
  refine G6 j5 (G6 j5 (G7 (v := .ptr _ _ _) j6 (D6 (off := 3) (s := 1) (r := false) j3 kz j3 ?_)))
  (apply E1 (v := Ss2) j2; exact Q0; rfl; exact j5)
  refine I0 j5 ?_
  (apply L8 (vs := [.int _ _, .int _ _, .int _ _, .int _ _, .int _ _, .int _ _]) j2; exact Q0; exact C7; rfl; exact kb; exact j4)
  refine dbs (es := [[.int _ _, .int _ _, .int _ _, .int _ _, .int _ _, .int _ _]]) j4 kz kb rfl rfl j3 ?_
  refine dopX (o112x t.sn ⟨r.cl, r.st, (doT (exT t now) r).2⟩ k hk (by omega) (vb := m2 + 1 + 1) (ks2.mono (fun a ha => by have q := T2.fs a ha; have q1 := q.1; have q5 := q.2.1; (simp (disch := (first | omega | assumption)) only [↓appC, ↓updN, ↓updS, ↓app0]))) (fun a ha => by have q := T2.fs a ha; omega) (by omega) (by exact Q0)) rfl j5 ?_
  rintro z h13_8
  try dsimp only at h13_8
  have hz3 : (z < m2 ∨ z = m2 + 1 + 1 + 1) ∧ z ≠ id ∧ (z < n ∨ n + 2 ≤ z) := by
   rcases h13_8 with e | e
   ·have := T2.idn; exact ⟨.inr (by omega), by omega, .inr (by omega)⟩
   ·have q := T2.fs z e; exact ⟨.inl q.1, q.2.1, hO z (.inr (.inr (.inl e)))⟩
  have hz1 := hz3.1; have hz2 := hz3.2.1; have hz4 := hz3.2.2
  refine G7 (v := .ptr _ _ _) j6 (D6 (off := 3) (s := 1) (r := false) j3 kz j3 ?_)
  (apply dst (u := .view _ _ _) rfl rfl rfl; exact Q0; exact C7; rfl; rfl; rfl; rfl; exact kb; rfl; rfl; rfl)
  refine B1 12 [3, 0, 0, 3, 3, 1, 0, 1, 0, 0, 0, 0] [(4, 7)] j2 (by decide +kernel) ?_ ?_
  ·(simp [ClearL, ids]; try omega)
  refine A1 (A2 (A0 ?_))
  (apply F9 (vs := [.int _ _, .int _ _, .int _ _, .int _ _]) j2; exact Q0; exact C7; rfl; exact kb; rfl; exact j3)
  (apply D4 (u := .agg [.int _ _, .int _ _, .int _ _, .int _ _]) j3; exact Q0; exact C7; rfl; rfl; rfl; rfl; exact kb; rfl; exact j2)
  refine A3 (A1 (A9 (E0 (A5 (A7 rfl (by exact Q0) j2 kb rfl) A8) (by (repeat first | exact Ch.refl _ | refine Ch.trans ?_ hc2 | refine Ch.trans ?_ hc1 | refine Ch.upd ?_ | refine Ch.app ?_)) ?_)))
  have e : rqT t now r = (⟨(doT (exT t now) r).1.tm, (doT (exT t now) r).1.nx, (doT (exT t now) r).1.lk, insL t.sn k ⟨r.cl, r.st, (doT (exT t now) r).2⟩⟩, (doT (exT t now) r).2) := by
   unfold rqT; rw [X6 (t := exT t now) hh (by show ¬ t.sn.length = 6; omega)]
   show (Tb.mk _ _ _ (insL t.sn (snP r.cl t.sn) _), _) = _; rw [hp]
  rw [e]
  refine ⟨rfl, ?_⟩
  refine TabS.comp (n2 := n) s1' s2' (Nat.le_refl _) (fun _ _ => rfl) (TabS.comp (n2 := n) x1' x2' (Nat.le_refl _) (fun _ _ => rfl) (T2.snS2 (n0 := n) (insL t.sn k ⟨r.cl, r.st, (doT (exT t now) r).2⟩) (.view (m2 + 1 + 1 + 1) 0 (t.sn.length + 1)) (by omega) (by omega) ?_ (.inr ⟨m2 + 1 + 1 + 1, by rw [List.length_map, I5 hk], ?_⟩) (fun a ha => ⟨by cases ha; omega, .inr (by cases ha; omega)⟩) (fun a o h1 h2 => ?_) (fun a ha h1 h2 => ?_)))
  ·exact Q0
  ·(simp (disch := (first | omega | assumption)) only [↓appC, ↓updN, ↓updS, ↓app0])
  ·have h3 : a ≠ z := fun e => h13_8.elim (fun q => by have := T2.lt o; omega) (fun q => h2 (by rw [e]; exact q))
   have h4 := hO a o
   have h5 := T2.lt o
   (simp (disch := (first | omega | assumption)) only [↓appC, ↓updN, ↓updS, ↓app0])
  ·have h3 : a ≠ z := fun e => h13_8.elim (fun q => by omega) (fun q => h2 (by rw [e]; exact q))
   (simp (disch := (first | omega | assumption)) only [↓appC, ↓updN, ↓updS, ↓app0])
theorem o71 (t : Tb) (now : Int) (r : Rq) (bq : Bq t now r) {id : Nat} {Sl Ss : V} {W : Nat → V} {h : Heap} {n : Nat} (T : TabM t id Sl Ss W h n) : OpenM En 71 [.ptr id 0 0, .int .i64 now, .agg [.int .i64 r.cl, .int .i64 r.st, .int .i64 r.kd, .int .i64 r.le, .str r.nm]] h n (fun v g m => v = .agg (rqT t now r).2.V ∧ TabS (rqT t now r).1 id (OwnT id Sl Ss W t.lk.length) n h g m) := by
 by_cases hh : snH r.cl t.sn
 ·exact o71h t now r bq hh rfl T
 ·exact o71x t now r bq hh rfl T
open Go.V
set_option linter.unusedVariables false
set_option linter.unusedSimpArgs false
set_option maxRecDepth 20000
set_option maxHeartbeats 4000000
theorem mixR_set2 {A B A' B' : Nat → List V} {m i : Nat} {z : List V} (h : i < m) (e : A' i = z) (ea : ∀ j, j < i → A' j = A j) (eb : ∀ j, i < j → B' j = B j) : (mixR A B m i).set (0 + i) z = mixR A' B' m (i + 1) := by
 subst e
 apply List.ext_getElem?
 intro j
 rw [Nat.zero_add, List.getElem?_set]
 by_cases hj : j < m
 ·rw [mixR_get hj, mixR_get hj]
  by_cases e : i = j
  ·subst e; rw [if_pos rfl, if_pos (by rw [AZ]; exact h), if_pos (by omega)]
  ·rw [if_neg e]
   by_cases h3 : j < i
   ·rw [if_pos h3, if_pos (by omega), ea j h3]
   ·rw [if_neg h3, if_neg (by omega), eb j (by omega)]
 ·rw [if_neg (by omega), List.getElem?_eq_none (by rw [AZ]; omega), List.getElem?_eq_none (by rw [AZ]; omega)]
structure SpI (t : Tb) (M : Int) (id lb i m : Nat) (w : Nat → Nat) (g : Heap) : Prop where
 le : i ≤ t.lk.length
 idm : id < m
 lbm : lb < m
 m6 : 6 < m
 ne : lb ≠ id
 ne6 : lb ≠ 6 ∧ lb ≠ 1 ∧ id ≠ 6 ∧ id ≠ 1
 wm : ∀ j, j < t.lk.length → w j < m
 wi : ∀ j, j < t.lk.length → w j ≠ id
 wl : ∀ j, j < t.lk.length → w j ≠ lb
 w6 : ∀ j, j < t.lk.length → w j ≠ 6
 w1 : ∀ j, j < t.lk.length → w j ≠ 1
 inj : ∀ a b, a < t.lk.length → b < t.lk.length → w a = w b → a = b
 kid : g id = some ⟨[[.int .i64 M, .int .i64 (nxL M t.nx (t.lk.take i)), .view lb 0 t.lk.length, .view 6 0 t.sn.length]], 4, 35⟩
 klb : g lb = some ⟨mixR (rwV w (exL M t.nx t.lk)) (rwV w t.lk) t.lk.length i, 5, 29⟩
 kw : ∀ j, j < t.lk.length → g (w j) = if j < i then wsF (exL M t.nx t.lk) j else wsF t.lk j
 k6 : g 6 = some ⟨t.sn.map Sn.V, 6, 115⟩
 k1 : g 1 = some ⟨[[.int .i64 0, .int .i64 0, .nsl, .nsl]], 4, 35⟩
 nxb : t.nx ≤ nxL M t.nx (t.lk.take i) ∧ nxL M t.nx (t.lk.take i) ≤ t.nx + (i : Int)
theorem SpI.stay {t : Tb} {M : Int} {id lb i m : Nat} {w : Nat → Nat} {g : Heap} (s : SpI t M id lb i m w g) (hi : i < t.lk.length) (hg : ¬ gone M (t.lk.getD i Lk0)) : SpI t M id lb (i + 1) m w g := by
 have hn : exN M (nxL M t.nx (t.lk.take i)) (t.lk.getD i Lk0) = nxL M t.nx (t.lk.take i) := if_neg (fun e => hg e.1)
 have he : (exL M t.nx t.lk).getD i Lk0 = t.lk.getD i Lk0 := by rw [L2 hi]; exact if_neg hg
 refine ⟨by omega, s.idm, s.lbm, s.m6, s.ne, s.ne6, s.wm, s.wi, s.wl, s.w6, s.w1, s.inj, ?_, ?_, fun j hj => ?_, s.k6, s.k1, ?_⟩
 ·rw [I1 hi, hn]; exact s.kid
 ·rw [← mixR_same (fun _ => by unfold rwV; rw [he])]; exact s.klb
 ·rw [s.kw j hj]
  by_cases h1 : j < i
  ·rw [if_pos h1, if_pos (by omega)]
  ·rw [if_neg h1]
   by_cases h2 : j = i
   ·subst h2; rw [if_pos (by omega)]; unfold wsF; rw [he]
   ·rw [if_neg (by omega)]
 ·rw [I1 hi, hn]; have := s.nxb; omega
def frW (l : Lk) (wb n : Nat) : Nat := if l.ws = [] then wb else n + 2
def frB (tm nx : Int) (l : Lk) : Option Blk := if l.ws = [] then none else some ⟨(exF tm nx l).ws.map wtV, 2, 123⟩
theorem SpI.free {t : Tb} {M : Int} {id lb i m : Nat} {w : Nat → Nat} {g : Heap} (s : SpI t M id lb i m w g) (hi : i < t.lk.length) (hg : gone M (t.lk.getD i Lk0)) :
  SpI t M id lb (i + 1) (m + 3) (fun j => if j = i then frW (t.lk.getD i Lk0) (w i) m else w j)
   (app [(lb, some ⟨(mixR (rwV w (exL M t.nx t.lk)) (rwV w t.lk) t.lk.length i).set (0 + i) ((exF M (nxL M t.nx (t.lk.take i)) (t.lk.getD i Lk0)).V (.view (frW (t.lk.getD i Lk0) (w i) m) 0 (exF M (nxL M t.nx (t.lk.take i)) (t.lk.getD i Lk0)).ws.length)), 5, 29⟩),
    (id, some ⟨[[.int .i64 M, .int .i64 (exN M (nxL M t.nx (t.lk.take i)) (t.lk.getD i Lk0)), .view lb 0 t.lk.length, .view 6 0 t.sn.length]], 4, 35⟩), (m + 2, frB M (nxL M t.nx (t.lk.take i)) (t.lk.getD i Lk0))] g) := by
 have hid := s.idm; have hlb := s.lbm; have h6 := s.m6; have hne := s.ne; have hne6 := s.ne6
 have hfw : frW (t.lk.getD i Lk0) (w i) m = w i ∨ frW (t.lk.getD i Lk0) (w i) m = m + 2 := by unfold frW; split <;> simp
 have hwi := s.wm i hi
 have wm' : ∀ j, j < t.lk.length → (if j = i then frW (t.lk.getD i Lk0) (w i) m else w j) < m + 3 := fun j hj => by
  have := s.wm j hj
  split <;> omega
 have ne' : ∀ x, x < m → (∀ j, j < t.lk.length → w j ≠ x) → ∀ j, j < t.lk.length → (if j = i then frW (t.lk.getD i Lk0) (w i) m else w j) ≠ x := fun x hx hw j hj => by
  have := hw j hj; have := hw i hi
  split <;> omega
 have bd := exN_bd (tm := M) (nx := nxL M t.nx (t.lk.take i)) (l := t.lk.getD i Lk0)
 refine ⟨by omega, by omega, by omega, by omega, hne, hne6, wm', ne' id hid s.wi, ne' lb hlb s.wl, ne' 6 h6 s.w6, ne' 1 (by omega) s.w1, fun a b ha hb e => ?_, ?_, ?_, fun j hj => ?_, ?_, ?_, ?_⟩
 ·have := s.inj a b ha hb
  have h1 := s.inj a i ha hi; have h2 := s.inj b i hb hi
  have := s.wm a ha; have := s.wm b hb
  (try dsimp only at e)
  split at e <;> split at e
  ·omega
  ·rcases hfw with h | h
   ·rw [h] at e; omega
   ·omega
  ·rcases hfw with h | h
   ·rw [h] at e; omega
   ·omega
  ·omega
 ·simp (disch := omega) only [↓appC, ↓updN, ↓updS, ↓app0]
  rw [I1 hi]
 ·simp (disch := omega) only [↓appC, ↓updN, ↓updS, ↓app0]
  refine congrArg (fun z => some (Blk.mk z 5 29)) (mixR_set2 hi ?_ (fun j hj => ?_) (fun j hj => ?_))
  ·unfold rwV; rw [L2 hi]; dsimp only; rw [if_pos rfl]
  ·unfold rwV; dsimp only; rw [if_neg (by omega)]
  ·unfold rwV; dsimp only; rw [if_neg (by omega)]
 ·by_cases hji : j = i
  ·subst hji
   rw [if_pos rfl, if_pos (by omega)]
   have hw1 := s.wi j hj; have hw2 := s.wl j hj
   unfold frW frB
   by_cases hz : (t.lk.getD j Lk0).ws = []
   ·rw [if_pos hz, if_pos hz]
    simp (disch := omega) only [↓appC, ↓updN, ↓updS, ↓app0]
    rw [s.kw j hj, if_neg (Nat.lt_irrefl _)]
    unfold wsF
    rw [L2 hj]
    have : (exF M (nxL M t.nx (t.lk.take j)) (t.lk.getD j Lk0)).ws = [] := by unfold exF; rw [if_pos hg, hz]
    rw [this, hz]
   ·rw [if_neg hz, if_neg hz]
    simp (disch := omega) only [↓appC, ↓updN, ↓updS, ↓app0]
    unfold wsF
    rw [L2 hj]
  ·rw [if_neg hji]
   have hw1 := s.wi j hj; have hw2 := s.wl j hj; have hw3 := s.wm j hj
   simp (disch := omega) only [↓appC, ↓updN, ↓updS, ↓app0]
   rw [s.kw j hj]
   by_cases h1 : j < i
   ·rw [if_pos h1, if_pos (by omega)]
   ·rw [if_neg h1, if_neg (by omega)]
 ·simp (disch := omega) only [↓appC, ↓updN, ↓updS, ↓app0]; exact s.k6
 ·simp (disch := omega) only [↓appC, ↓updN, ↓updS, ↓app0]; exact s.k1
 ·rw [I1 hi]; have := s.nxb; omega
theorem o95z (nm : ByteArray) (tk hd ex tm nx : Int) (wb off : Nat) (Ss : V) {id lb j len : Nat} {R : List (List V)} {h : Heap} {n : Nat} (hid : id < n) (hlb : lb < n) (hne : lb ≠ id) (hh : h id = some ⟨[[.int .i64 tm, .int .i64 nx, .view lb 0 len, Ss]], 4, 35⟩) (hjl : j < len) (hj : 0 + j < R.length) (k1 : h lb = some ⟨R, 5, 29⟩) (k2 : R[0 + j]? = some [.str nm, .int .i64 tk, .int .i64 hd, .int .i64 ex, .view wb off 0]) : V.Open En 95 [.ptr id 0 0, .int .i64 j] h n (.tup []) [(lb, some ⟨R.set (0 + j) [.str nm, .int .i64 tk, .int .i64 (-1), .int .i64 0, .view wb off 0], 5, 29⟩), (id, some ⟨[[.int .i64 tm, .int .i64 nx, .view lb 0 len, Ss]], 4, 35⟩), (n + 2, none)] (n + 3) := by
 refine V.Open.fresh rfl (by omega) fun hz => ?_
 refine V.Open.of_wp Try.func95 rfl kb ?_
 refine A2 (A0 (D9 j5 (F6 (v := .ptr _ _ _) j6 (C1 (off := 2) (s := 1) (r := false) j3 kz j3 ?_))))
 (apply C5 (v := .view _ _ _) j2; exact Q0; exact Q9; exact j5)
 refine B6 j5 ?_
 (apply T8 j4; exact Q0; rfl; exact Q4; exact Q4; exact j3)
 refine raP j5 (A3 (A1 (A2 (A2 (A0 (D9 j5 (F6 (v := .ptr _ _ _) j6 (C1 (off := 4) (s := 1) (r := false) j3 kz j3 ?_))))))))
 (apply C5 (v := .view _ _ _) j2; exact Q0; exact Q9; exact j5)
 refine H0 rfl rfl rfl j3 ?_
 refine H5 j6 ?_ (fun h => absurd (rfl) h)
 intro h1_5
 refine A3 (A1 (wT rfl (A2 (A0 (D9 j5 (F6 (v := .ptr _ _ _) j6 (C1 (off := 2) (s := 1) (r := false) j3 kz j3 ?_)))))))
 (apply D4 (u := .int _ _) j3; exact Q0; exact Q9; rfl; rfl; rfl; rfl; exact kb; rfl; exact j2)
 refine A3 (A1 (A2 (A0 (D9 j5 (F6 (v := .ptr _ _ _) j6 (C1 (off := 3) (s := 1) (r := false) j3 kz j3 ?_))))))
 (apply D4 (u := .int _ _) j3; exact Q0; exact Q9; rfl; rfl; rfl; rfl; exact kb; rfl; exact j2)
 refine A3 (A1 (A9 (B2 ?_)))
 exact E7 rfl rfl (K8 (by
  intro jx hjx
  simp only [List.map_cons, List.map_nil, List.mem_cons, List.not_mem_nil, or_false] at hjx
  rcases hjx with rfl | rfl | rfl <;> (simp (disch := omega) only [↓appC, ↓updN, ↓updS, ↓app0]) <;> first | rfl | exact hh | exact hz _ (by omega) | (focus (simp only [List.set_set]; done)) | (simp only [List.set_set]; rfl)) (fun jx hjx hn => by
  simp only [List.map_cons, List.map_nil, List.mem_cons, List.not_mem_nil, or_false, not_or] at hn
  (simp (disch := omega) only [↓appC, ↓updN, ↓updS, ↓app0]))) (by omega)
open Go.V
set_option linter.unusedVariables false
set_option linter.unusedSimpArgs false
set_option maxRecDepth 20000
set_option maxHeartbeats 4000000
theorem takeRP (pre : List (List V)) (a : Wt) (r : List Wt) : ((pre ++ (a :: r).map wtV).drop (pre.length + 1)).take r.length = r.map wtV := by
 have e : pre ++ (a :: r).map wtV = (pre ++ [wtV a]) ++ r.map wtV := by simp
 have e2 : pre.length + 1 = (pre ++ [wtV a]).length := by simp
 rw [e, e2, List.drop_left, List.take_of_length_le (by simp)]
theorem o95c (nm : ByteArray) (tk hd ex tm nx c le : Int) (wb : Nat) (pre : List (List V)) (r : List Wt) (Ss : V) (hr : r.length ≤ 1000) (ht : 0 ≤ tm ∧ tm ≤ 1000000000) (hn : 0 ≤ nx ∧ nx ≤ 999999) (hle : 0 ≤ le ∧ le ≤ 1000) {id lb j len : Nat} {R : List (List V)} {h : Heap} {n : Nat} (hid : id < n) (hlb : lb < n) (hne : lb ≠ id) (hh : h id = some ⟨[[.int .i64 tm, .int .i64 nx, .view lb 0 len, Ss]], 4, 35⟩) (hjl : j < len) (hj : 0 + j < R.length) (k1 : h lb = some ⟨R, 5, 29⟩) (hwb : wb < n) (hwl : wb ≠ lb) (hwi : wb ≠ id) (k2 : R[0 + j]? = some [.str nm, .int .i64 tk, .int .i64 hd, .int .i64 ex, .view wb pre.length (r.length + 1)]) (k3 : h wb = some ⟨pre ++ ((c, le) :: r).map wtV, 2, 123⟩) : V.Open En 95 [.ptr id 0 0, .int .i64 j] h n (.tup []) [(lb, some ⟨R.set (0 + j) [.str nm, .int .i64 nx, .int .i64 c, .int .i64 (tm + le), .view (n + 2) 0 r.length], 5, 29⟩), (id, some ⟨[[.int .i64 tm, .int .i64 (nx + 1), .view lb 0 len, Ss]], 4, 35⟩), (n + 2, some ⟨r.map wtV, 2, 123⟩)] (n + 3) := by
 refine V.Open.of_wp Try.func95 rfl kb ?_
 refine A2 (A0 (D9 j5 (F6 (v := .ptr _ _ _) j6 (C1 (off := 2) (s := 1) (r := false) j3 kz j3 ?_))))
 (apply C5 (v := .view _ _ _) j2; exact Q0; exact Q9; exact j5)
 refine B6 j5 ?_
 (apply T8 j4; exact Q0; rfl; exact Q4; exact Q4; exact j3)
 refine raP j5 (A3 (A1 (A2 (A2 (A0 (D9 j5 (F6 (v := .ptr _ _ _) j6 (C1 (off := 4) (s := 1) (r := false) j3 kz j3 ?_))))))))
 (apply C5 (v := .view _ _ _) j2; exact Q0; exact Q9; exact j5)
 refine H0 rfl rfl rfl j3 ?_
 refine H5 j6 (fun h => absurd h ((by show ¬ (((r.length + 1 : Nat) : Int) = 0); omega))) ?_
 intro h1_5
 refine A3 (A1 (wF rfl (B0 (A1 (A2 (A0 (D9 j5 (F6 (v := .ptr _ _ _) j6 (C1 (off := 4) (s := 1) (r := false) j3 kz j3 ?_)))))))))
 (apply C5 (v := .view _ _ _) j2; exact Q0; exact Q9; exact j5)
 (apply T8 j4; exact Q0; rfl; exact Q4; exact Q4; exact j3)
 (apply F9 (vs := [.int _ _, .int _ _]) j2; exact Q0; exact getMP wtV (0, 0) (X := (c, le) :: r) (i := 0) (Nat.succ_pos _); rfl; exact kb; rfl; exact j3)
 refine H3 j6 ?_
 (apply D4 (u := .agg [.int _ _, .int _ _]) j3; exact Q0; exact Q9; rfl; rfl; rfl; rfl; exact kb; rfl; exact j2)
 refine A3 (A1 (A2 (A0 (D9 j5 (S8 (es := []) j4 kz kb rfl rfl j3 (D9 j5 (F6 (v := .ptr _ _ _) j6 (C1 (off := 4) (s := 1) (r := false) j3 kz j3 ?_))))))))
 (apply C5 (v := .view _ _ _) j2; exact Q0; exact Q9; exact j5)
 (apply rslv j3; exact Q0; exact j3; exact Q4; exact Q4; exact Q4; exact j3)
 (apply rap (s' := 16) rfl rfl; exact Q0; exact j2; rfl; exact j2; exact kz; (apply K0 rfl; exact Q0; (show pre.length + 1 + _ ≤ (pre ++ List.map wtV _).length; simp; omega); exact takeRP pre ⟨c, le⟩ r); exact lenWtR r; (first | (show (0 + (r.map wtV).length) * _ ≤ _; rw [lenR]; omega) | (show 0 + (r.map wtV).length ≤ _; rw [lenR]; omega)); (first | (show (0 + (r.map wtV).length) * _ ≤ _; rw [lenR]; omega) | (show 0 + (r.map wtV).length ≤ _; rw [lenR]; omega)); exact j3)
 refine F6 (v := .ptr _ _ _) j6 (C1 (off := 4) (s := 1) (r := false) j3 kz j3 ?_)
 (apply D4 (u := .view _ _ _) j3; exact Q0; exact Q9; rfl; rfl; rfl; rfl; exact kb; rfl; exact j2)
 refine A3 (A1 (A0 (D9 j5 (B6 j5 (C1 (off := 0) (s := 1) (r := false) j3 kz j3 ?_)))))
 (apply C5 (v := .int _ _) j2; exact Q0; exact Q9; exact j5)
 refine C1 (off := 1) (s := 1) (r := false) j3 kz j3 ?_
 (apply C5 (v := .int _ _) j2; exact Q0; exact Q9; exact j5)
 refine I9 (o124 nm tk hd ex tm nx c le (.view (n + 2) 0 (0 + (r.map wtV).length)) Ss rfl ht hn hle (id := id) (lb := lb) (j := j) (len := len) (R := R.set (0 + j) [.str nm, .int .i64 tk, .int .i64 hd, .int .i64 ex, .view (n + 2) 0 (0 + (r.map wtV).length)]) (by omega) (by omega) hne (by exact Q0) hjl (by rw [List.length_set]; exact hj) (by exact Q0) (List.getElem?_set_self hj)) rfl rfl rfl rfl rfl rfl ?_
 refine A3 ?_
 rw [← lenR r]; exact E7 rfl rfl (K8 (by
  intro jx hjx
  simp only [List.map_cons, List.map_nil, List.mem_cons, List.not_mem_nil, or_false] at hjx
  rcases hjx with rfl | rfl | rfl <;> (simp (disch := omega) only [↓appC, ↓updN, ↓updS, ↓app0]) <;> first | rfl | (focus (simp only [List.set_set]; done)) | (simp only [List.set_set]; rfl)) (fun jx hjx hn => by
  simp only [List.map_cons, List.map_nil, List.mem_cons, List.not_mem_nil, or_false, not_or] at hn
  (simp (disch := omega) only [↓appC, ↓updN, ↓updS, ↓app0]))) (by omega)
theorem o95n (nm : ByteArray) (tk hd ex tm nx : Int) (Ss : V) {id lb j len : Nat} {R : List (List V)} {h : Heap} {n : Nat} (hid : id < n) (hlb : lb < n) (hne : lb ≠ id) (hh : h id = some ⟨[[.int .i64 tm, .int .i64 nx, .view lb 0 len, Ss]], 4, 35⟩) (hjl : j < len) (hj : 0 + j < R.length) (k1 : h lb = some ⟨R, 5, 29⟩) (k2 : R[0 + j]? = some [.str nm, .int .i64 tk, .int .i64 hd, .int .i64 ex, .nsl]) : V.Open En 95 [.ptr id 0 0, .int .i64 j] h n (.tup []) [(lb, some ⟨R.set (0 + j) [.str nm, .int .i64 tk, .int .i64 (-1), .int .i64 0, .nsl], 5, 29⟩), (id, some ⟨[[.int .i64 tm, .int .i64 nx, .view lb 0 len, Ss]], 4, 35⟩), (n + 2, none)] (n + 3) := by
 refine V.Open.fresh rfl (by omega) fun hz => ?_
 refine V.Open.of_wp Try.func95 rfl kb ?_
 refine A2 (A0 (D9 j5 (F6 (v := .ptr _ _ _) j6 (C1 (off := 2) (s := 1) (r := false) j3 kz j3 ?_))))
 (apply C5 (v := .view _ _ _) j2; exact Q0; exact Q9; exact j5)
 refine B6 j5 ?_
 (apply T8 j4; exact Q0; rfl; exact Q4; exact Q4; exact j3)
 refine raP j5 (A3 (A1 (A2 (A2 (A0 (D9 j5 (F6 (v := .ptr _ _ _) j6 (C1 (off := 4) (s := 1) (r := false) j3 kz j3 ?_))))))))
 (apply C5 (v := .nsl) j2; exact Q0; exact Q9; exact j5)
 refine H0 rfl rfl rfl j3 ?_
 refine H5 j6 ?_ (fun h => absurd (rfl) h)
 intro h1_5
 refine A3 (A1 (wT rfl (A2 (A0 (D9 j5 (F6 (v := .ptr _ _ _) j6 (C1 (off := 2) (s := 1) (r := false) j3 kz j3 ?_)))))))
 (apply D4 (u := .int _ _) j3; exact Q0; exact Q9; rfl; rfl; rfl; rfl; exact kb; rfl; exact j2)
 refine A3 (A1 (A2 (A0 (D9 j5 (F6 (v := .ptr _ _ _) j6 (C1 (off := 3) (s := 1) (r := false) j3 kz j3 ?_))))))
 (apply D4 (u := .int _ _) j3; exact Q0; exact Q9; rfl; rfl; rfl; rfl; exact kb; rfl; exact j2)
 refine A3 (A1 (A9 (B2 ?_)))
 exact E7 rfl rfl (K8 (by
  intro jx hjx
  simp only [List.map_cons, List.map_nil, List.mem_cons, List.not_mem_nil, or_false] at hjx
  rcases hjx with rfl | rfl | rfl <;> (simp (disch := omega) only [↓appC, ↓updN, ↓updS, ↓app0]) <;> first | rfl | exact hh | exact hz _ (by omega) | (focus (simp only [List.set_set]; done)) | (simp only [List.set_set]; rfl)) (fun jx hjx hn => by
  simp only [List.map_cons, List.map_nil, List.mem_cons, List.not_mem_nil, or_false, not_or] at hn
  (simp (disch := omega) only [↓appC, ↓updN, ↓updS, ↓app0]))) (by omega)
theorem o95w (l : Lk) (w : V) (tm nx : Int) (Ss : V) (hL : l.ws.length ≤ 1000) (hw : ∀ i, i < l.ws.length → 1 ≤ (l.ws.getD i (0, 0)).2 ∧ (l.ws.getD i (0, 0)).2 ≤ 1000) (ht : 0 ≤ tm ∧ tm ≤ 1000000000) (hn : 0 ≤ nx ∧ nx ≤ 999999) {id lb j len : Nat} {R : List (List V)} {h : Heap} {n : Nat} (hid : id < n) (hlb : lb < n) (hne : lb ≠ id) (hh : h id = some ⟨[[.int .i64 tm, .int .i64 nx, .view lb 0 len, Ss]], 4, 35⟩) (hjl : j < len) (hj : 0 + j < R.length) (k1 : h lb = some ⟨R, 5, 29⟩) (k2 : R[0 + j]? = some (l.V w)) (k3 : IsL h w (l.ws.map wtV) 2 123) (k4 : ∀ a, fpV w = some a → a < n ∧ a ≠ lb ∧ a ≠ id) :
  ∃ p : V × Option Blk, ((∀ a, fpV p.1 = some a → a = n + 2 ∨ fpV w = some a) ∧ (∀ g : Heap, g (n + 2) = p.2 → (∀ a, fpV w = some a → g a = h a) → IsL g p.1 ((frL tm nx l).ws.map wtV) 2 123)) ∧
   V.Open En 95 [.ptr id 0 0, .int .i64 j] h n (.tup []) [(lb, some ⟨R.set (0 + j) ((frL tm nx l).V p.1), 5, 29⟩), (id, some ⟨[[.int .i64 tm, .int .i64 (frN nx l), .view lb 0 len, Ss]], 4, 35⟩), (n + 2, p.2)] (n + 3) := by
 obtain ⟨nm, tk, hd, ex, ws⟩ := l
 cases ws with
 | nil =>
  rcases k3 with ⟨rfl, _⟩ | ⟨wb, pre, rfl, k⟩
  ·exact ⟨(.nsl, none), ⟨fun a ha => (by cases ha), fun g _ _ => .inl ⟨rfl, rfl⟩⟩, o95n nm tk hd ex tm nx Ss hid hlb hne hh hjl hj k1 k2⟩
  ·exact ⟨(.view wb pre.length 0, none), ⟨fun a ha => .inr ha, fun g _ e => .inr ⟨wb, pre, rfl, (e wb rfl).trans k⟩⟩, o95z nm tk hd ex tm nx wb pre.length Ss hid hlb hne hh hjl hj k1 k2⟩
 | cons a r =>
  rcases k3 with ⟨_, k⟩ | ⟨wb, pre, rfl, k⟩
  ·cases k
  ·have hw0 := hw 0 (by simp)
   simp only [List.getD_eq_getElem?_getD, List.getElem?_cons_zero, Option.getD_some] at hw0
   have q := k4 wb rfl
   have k2' : R[0 + j]? = some [.str nm, .int .i64 tk, .int .i64 hd, .int .i64 ex, .view wb pre.length (r.length + 1)] := by rw [k2]; simp [Lk.V]
   simp only [List.length_cons] at hL
   exact ⟨(.view (n + 2) 0 r.length, some ⟨r.map wtV, 2, 123⟩), ⟨fun a ha => (by cases ha; exact .inl rfl), fun g e _ => .inr ⟨n + 2, [], by simp [frL], by rw [e]; rfl⟩⟩,
    o95c nm tk hd ex tm nx a.1 a.2 wb pre r Ss (by omega) ht hn ⟨by omega, hw0.2⟩ hid hlb hne hh hjl hj k1 q.1 q.2.1 q.2.2 k2' k⟩
structure TabV (t : Tb) (Sl Ss : V) (W : Nat → V) (h : Heap) (n0 n : Nat) : Prop where
 kl : IsZ h Sl (rwW t.lk W) 5 29
 ks : IsZ h Ss (t.sn.map Sn.V) 6 115
 kw : ∀ i, i < t.lk.length → IsL h (W i) ((t.lk.getD i Lk0).ws.map wtV) 2 123
 fl : ∀ a, fpV Sl = some a → n0 ≤ a ∧ a < n
 fs : ∀ a, fpV Ss = some a → (n0 ≤ a ∧ a < n) ∧ fpV Sl ≠ some a
 fw : ∀ i a, i < t.lk.length → fpV (W i) = some a → (n0 ≤ a ∧ a < n) ∧ fpV Sl ≠ some a ∧ fpV Ss ≠ some a ∧ ∀ j, j < t.lk.length → j ≠ i → fpV (W j) ≠ some a
theorem TabM.toV {t : Tb} {id : Nat} {Sl Ss : V} {W : Nat → V} {h : Heap} {n n0 : Nat} (T : TabM t id Sl Ss W h n) (hn : ∀ a, OwnT id Sl Ss W t.lk.length a → n0 ≤ a) : TabV t Sl Ss W h n0 n :=
 ⟨T.kl, T.ks, T.kw, fun a h => ⟨hn a (.inr (.inl h)), (T.fl a h).1⟩, fun a h => ⟨⟨hn a (.inr (.inr (.inl h))), (T.fs a h).1⟩, (T.fs a h).2.2⟩, fun i a hi h => ⟨⟨hn a (.inr (.inr (.inr ⟨i, hi, h⟩))), (T.fw i a hi h).1⟩, (T.fw i a hi h).2.2⟩⟩
theorem TabV.keep {t : Tb} {Sl Ss : V} {W : Nat → V} {h g : Heap} {n n0 m : Nat} (T : TabV t Sl Ss W h n0 n) (hm : n ≤ m) (e : ∀ a, n0 ≤ a → a < n → g a = h a) : TabV t Sl Ss W g n0 m :=
 ⟨T.kl.mono fun a h => e a (T.fl a h).1 (T.fl a h).2, T.ks.mono fun a h => e a (T.fs a h).1.1 (T.fs a h).1.2, fun i hi => (T.kw i hi).mono fun a h => e a (T.fw i a hi h).1.1 (T.fw i a hi h).1.2,
  fun a h => ⟨(T.fl a h).1, by have := (T.fl a h).2; omega⟩, fun a h => ⟨⟨(T.fs a h).1.1, by have := (T.fs a h).1.2; omega⟩, (T.fs a h).2⟩, fun i a hi h => ⟨⟨(T.fw i a hi h).1.1, by have := (T.fw i a hi h).1.2; omega⟩, (T.fw i a hi h).2⟩⟩
theorem TabV.toM {t : Tb} {Sl Ss : V} {W : Nat → V} {h g : Heap} {n n0 m id : Nat} (T : TabV t Sl Ss W h n0 n) (hid : id < m ∧ (n ≤ id ∨ id < n0)) (hm : n ≤ m) (g1 : g id = some ⟨[[.int .i64 t.tm, .int .i64 t.nx, Sl, Ss]], 4, 35⟩) (e : ∀ a, n0 ≤ a → a < n → g a = h a) : TabM t id Sl Ss W g m := by
 have T := T.keep hm e
 have nid : ∀ a, n0 ≤ a → a < n → a ≠ id := fun a h1 h2 => by omega
 have T0 := ‹TabV t Sl Ss W h n0 n›
 exact ⟨hid.1, g1, T.kl, T.ks, T.kw, fun a h => ⟨(T.fl a h).2, nid a (T0.fl a h).1 (T0.fl a h).2⟩, fun a h => ⟨(T.fs a h).1.2, nid a (T0.fs a h).1.1 (T0.fs a h).1.2, (T.fs a h).2⟩, fun i a hi h => ⟨(T.fw i a hi h).1.2, nid a (T0.fw i a hi h).1.1 (T0.fw i a hi h).1.2, (T.fw i a hi h).2⟩⟩
theorem TabV.ownM {t : Tb} {Sl Ss : V} {W : Nat → V} {h : Heap} {n n0 id : Nat} (T : TabV t Sl Ss W h n0 n) : ∀ a, OwnT id Sl Ss W t.lk.length a → a = id ∨ (n0 ≤ a ∧ a < n) := fun a o => by
 rcases o with h | h | h | ⟨i, hi, h⟩
 ·exact .inl h
 ·exact .inr (T.fl a h)
 ·exact .inr (T.fs a h).1
 ·exact .inr (T.fw i a hi h).1
open Go.V
set_option linter.unusedVariables false
set_option linter.unusedSimpArgs false
set_option maxRecDepth 20000
set_option maxHeartbeats 4000000
theorem TabV.low {t : Tb} {Sl Ss : V} {W : Nat → V} {h : Heap} {n n0 n1 : Nat} (T : TabV t Sl Ss W h n0 n) (hn : n1 ≤ n0) : TabV t Sl Ss W h n1 n :=
 ⟨T.kl, T.ks, T.kw, fun a h => ⟨by have := (T.fl a h).1; omega, (T.fl a h).2⟩, fun a h => ⟨⟨by have := (T.fs a h).1.1; omega, (T.fs a h).1.2⟩, (T.fs a h).2⟩, fun i a hi h => ⟨⟨by have := (T.fw i a hi h).1.1; omega, (T.fw i a hi h).1.2⟩, (T.fw i a hi h).2⟩⟩
theorem o44g (t : Tb) (b n1 n2 : Bool) (fr : Bool) (hL : t.lk.length ≤ 1000) (hW : ∀ i, i < t.lk.length → (t.lk.getD i Lk0).ws.length ≤ 1048576) (hS : t.sn.length ≤ 1048576) {h : Heap} {n : Nat} (lid0 : Nat) (hlid : lid0 = n + 2 ∧ t.lk.length = 0 ∨ lid0 = n + 5 * t.lk.length + 5 ∧ 0 < t.lk.length) : V.Open En 44 [.agg [.int .i64 t.tm, .int .i64 t.nx, .sl fr n1 (t.lk.map (Lk.T b)), .sl fr n2 (t.sn.map Sn.T)]] h n (.agg [.int .i64 t.tm, .int .i64 t.nx, .view lid0 0 t.lk.length, .view (n + 4) 0 t.sn.length]) ([(n + 4, some ⟨t.sn.map Sn.V, 6, 115⟩), (lid0, some ⟨lkR (fun i => n + 6 + 5 * i + 2) t.lk, 5, 29⟩)] ++ famL (fun i => n + 6 + 5 * i + 2) (wsF t.lk) t.lk.length) (n + 6 + 5 * t.lk.length) := by
 have hl : (t.lk.map (Lk.T b)).length = t.lk.length := List.length_map ..
 refine V.Open.fresh rfl (by omega) fun hz => ?_
 refine V.Open.of_wp Try.func44 rfl kb ?_
 refine A2 (A0 ?_)
 (refine L7 (u := .agg [.int .i64 t.tm, .int .i64 t.nx, .sl fr n1 (t.lk.map (Lk.T b)), .sl fr n2 (t.sn.map Sn.T)]) j3 rfl j3 ?_)
 refine H3 j6 (A3 (A1 (A2 (C2 [0, 1, 0, 4, 0, 0, 0, 64, 224, 511, 0, 2047] rfl (by decide +kernel) ?_))))
 refine D6 (off := 0) (s := 1) (r := false) j3 kz j3 ?_
 (apply E1 (v := .int _ _) j2; exact Q3; rfl; exact j5)
 refine D6 (off := 1) (s := 1) (r := false) j3 kz j3 ?_
 (apply E1 (v := .int _ _) j2; exact Q3; rfl; exact j5)
 refine dbs (es := []) j4 kz kb rfl rfl j3 (dbs (es := []) j4 kz kb rfl rfl j3 (D6 (off := 3) (s := 1) (r := false) j3 kz j3 ?_))
 (apply E1 (v := .sl _ _ _) j2; exact Q3; rfl; exact j5)
 (apply dap (s' := 48) rfl rfl; exact Q3; exact j2; rfl; exact j2; exact kz; rfl; exact (lenSnF fr t.sn); (simp only [List.length_map]; omega); (simp only [List.length_map]; omega); exact j3)
 refine dbd (cs := [.int _ _, .int _ _, _, _]) j5 (dal j6 ?_)
 (apply dst (u := .agg [.int _ _, .int _ _, _, _]) rfl rfl rfl; exact Q3; rfl; rfl; rfl; rfl; rfl; exact kb; rfl; rfl; rfl)
 refine B1 12 [3, 3, 0, 3, 1, 0, 3, 3, 1, 0, 1, 0] [(1, 4), (3, 4), (1, 5), (3, 5), (4, 5), (4, 7), (5, 7), (1, 8), (3, 8), (4, 8), (1, 10), (3, 10), (4, 10), (5, 10), (7, 10), (8, 10)] j2 (by decide +kernel) ?_ ?_
 ·(simp [ClearL, ids, srcIds, Env.eval, upd, retV, A.toV, T.toV]; try omega)
 refine A1 (A2 (A2 (A0 (D0 j5 (A3 (A1 (B3 (F0 ?_))))))))
 refine E9 (fun (a : Nat × Nat) => [.unk, .ptr n 0 0, .ptr (n + 1) 0 0, .ptr (n + 5) 0 0, .int .i64 a.1]) (fun (a : Nat × Nat) => app ([(n, some ⟨[[.int .i64 t.tm, .int .i64 t.nx, .sl fr n1 (t.lk.map (Lk.T b)), .sl fr n2 (t.sn.map Sn.T)]], 4, 35⟩), (n + 1, some ⟨[[.int .i64 0, .int .i64 0, .nsl, .nsl]], 4, 35⟩), (n + 4, some ⟨t.sn.map Sn.V, 6, 115⟩), (n + 5, some ⟨[[.int .i64 t.tm, .int .i64 t.nx, .view a.2 0 a.1, .view (n + 4) 0 t.sn.length]], 4, 35⟩), (a.2, some ⟨(List.range a.1).map (rwV (fun i => n + 6 + 5 * i + 2) t.lk), 5, 29⟩)] ++ famL (fun i => n + 6 + 5 * i + 2) (wsF t.lk) a.1) h) (fun (a : Nat × Nat) => n + 6 + 5 * a.1) (fun (a : Nat × Nat) => a.1 ≤ t.lk.length ∧ (a.2 = n + 2 ∧ a.1 = 0 ∨ a.2 = n + 5 * a.1 + 5 ∧ 0 < a.1)) (fun (a : Nat × Nat) => t.lk.length - a.1) (0, n + 2) ?_ ?_ ?_ ?_ ?_
 ·exact ⟨Nat.zero_le _, .inl ⟨rfl, rfl⟩⟩
 ·(repeat first | exact LE.nil _ | refine LE.unk _ _ ?_ | refine LE.eq _ _ _ rfl ?_)
 ·dsimp only
  refine AE (m := n) hz (fun j hj => ?_) (fun j hj => ?_) (fun j hl hf hn => ?_)
  ·exact absurd hj (Nat.not_lt_zero _)
  ·simp only [List.map_cons, List.map_nil, List.mem_cons, List.not_mem_nil, or_false] at hj
   refine Eq.trans ?_ (famAO (fun k _ => by rcases hj with e | e | e | e | e <;> rw [e] <;> (try dsimp only) <;> omega)).symm
   rcases hj with e | e | e | e | e <;> rw [e] <;> (simp (disch := (first | omega | (intro _ _; dsimp only; omega))) only [↓appC, ↓updN, ↓updS, ↓app0, ↓famAO]) <;> first | rfl | (first | exact congrArg (fun z => some (Blk.mk z 6 115)) (rowsSnV fr t.sn) | exact congrArg (fun z => some (Blk.mk [[.int .i64 t.tm, .int .i64 t.nx, .view (n + 2) 0 0, .view (n + 4) 0 z]] 4 35)) (by simp))
  ·simp only [List.map_cons, List.map_nil, List.mem_cons, List.not_mem_nil, or_false, not_or] at hn
   (try simp (disch := (first | omega | (intro k hk; exact hf k (by omega)))) only [↓appC, ↓updN, ↓updS, ↓app0, ↓famAO])
 ·exact Nat.le_refl _
 intro ⟨i, lid⟩ hI ih
 dsimp only at hI ⊢
 have hI2 := hI.2
 refine E8 (A2 (A2 (A0 (B6 j5 (C1 (off := 2) (s := 1) (r := false) j3 kz j3 ?_)))))
 (apply C5 (v := .sl _ _ _) j2; exact Q3; rfl; exact j5)
 refine H0 rfl rfl rfl j3 ?_
 refine I6 j6 ?_ ?_ <;> intro h3_4
 ·refine A3 (A1 (wT rfl (B0 (A1 (A2 (B3 (A2 (A0 (C1 (off := 2) (s := 1) (r := false) j3 kz j3 ?_)))))))))
  (apply C5 (v := .sl _ _ _) j2; exact Q3; rfl; exact j5)
  refine B6 j5 ?_
  (apply N0 j4; exact Q4; (first | rfl | assumption | (exact D8 (Lk.T b) Lk0 (k := i) (by omega))); exact j4)
  refine T7 (vs := [.str _, .int _ _, .int _ _, .int _ _, _]) j3 kb j4 (H3 j6 ?_)
  (apply D4 (u := .agg [.str _, .int _ _, .int _ _, .int _ _, _]) j3; exact Q3; rfl; rfl; rfl; rfl; rfl; exact kb; rfl; exact j2)
  refine A3 (A1 (A2 (A0 (S8 (es := []) j4 kz kb rfl rfl j3 (C1 (off := 4) (s := 1) (r := false) j3 kz j3 ?_)))))
  (apply C5 (v := .sl _ _ _) j2; exact Q3; rfl; exact j5)
  (apply rap (s' := 16) rfl rfl; exact Q3; exact j2; rfl; exact j2; exact kz; rfl; exact (lenWtF fr (t.lk.getD i Lk0).ws); (simp only [List.length_map]; have := hW i (by omega); omega); (simp only [List.length_map]; have := hW i (by omega); omega); exact j3)
  refine C1 (off := 4) (s := 1) (r := false) j3 kz j3 ?_
  (apply D4 (u := .view _ _ _) j3; exact Q3; rfl; rfl; rfl; rfl; rfl; exact kb; rfl; exact j2)
  refine A3 (A1 (A0 (C1 (off := 2) (s := 1) (r := false) j3 kz j3 ?_)))
  (apply C5 (v := .view _ _ _) j2; exact Q3; rfl; exact j5)
  (apply F9 (vs := [.str _, .int _ _, .int _ _, .int _ _, _]) j2; exact Q3; rfl; rfl; exact kb; rfl; exact j3)
  refine S8 (es := [[.str _, .int _ _, .int _ _, .int _ _, _]]) j4 kz kb rfl rfl j3 ?_
  (apply rap (s' := 64) (es := [[.str _, .int _ _, .int _ _, .int _ _, _]]) rfl rfl; exact Q3; exact j2; (first | rfl | (focus (simp; done)) | (focus (simp; omega))); exact j2; exact kz; (first | rfl | (apply K0 rfl; exact Q3; (first | exact Nat.le_refl _ | omega); rfl)); exact AC; exact Q32; exact Q32; exact j3)
  refine C1 (off := 2) (s := 1) (r := false) j3 kz j3 ?_
  (apply D4 (u := .view _ _ _) j3; exact Q3; rfl; rfl; rfl; rfl; rfl; exact kb; rfl; exact j2)
  refine A3 (B7 (A1 (A0 (B6 j5 (C3 j3 ?_ ?_ j3 ?_)))))
  ·exact Q4
  ·exact Q4
  refine D0 j5 (A3 (D1 ?_))
  refine H4 (ih (i + 1, n + 6 + 5 * i + 1 + 1 + 1 + 1) ⟨by dsimp only; omega, .inr ⟨by dsimp only; omega, by dsimp only; omega⟩⟩ (by dsimp only; omega)) (by (repeat first | exact LE.nil _ | refine LE.unk _ _ ?_ | refine LE.eq _ _ _ rfl ?_)) (by
   dsimp only
   refine AE (m := n) hz (fun j hj => ?_) (fun j hj => ?_) (fun j hl hf hn => ?_)
   ·refine Eq.trans ?_ (famA (w := (fun i => n + 6 + 5 * i + 2)) (fun a b _ _ e => by (try dsimp only at e); omega) hj).symm
    (try dsimp only)
    by_cases e : j = i
    ·rw [e]
     (simp (disch := omega) only [↓appC, ↓updN, ↓updS, ↓app0]) <;> exact congrArg (fun z => some (Blk.mk z 2 123)) (rowsWtV fr _)
    ·simp (disch := omega) only [↓appC, ↓updN, ↓updS, ↓app0]
     exact famA (w := (fun i => n + 6 + 5 * i + 2)) (fun a b _ _ e => by (try dsimp only at e); omega) (show j < i by omega)
   ·simp only [List.map_cons, List.map_nil, List.mem_cons, List.not_mem_nil, or_false] at hj
    refine Eq.trans ?_ (famAO (fun k _ => by rcases hj with e | e | e | e | e <;> rw [e] <;> (try dsimp only) <;> omega)).symm
    rcases hj with e | e | e | e | e <;> rw [e] <;> (simp (disch := (first | omega | (intro _ _; dsimp only; omega))) only [↓appC, ↓updN, ↓updS, ↓app0, ↓famAO]) <;> first | rfl | (first | (refine congrArg (fun z => some (Blk.mk z 5 29)) ?_; simp only [List.length_map, Nat.zero_add]; exact rgSnoc2 (fun i => n + 6 + 5 * i + 2) t.lk i) | exact congrArg (fun z => some (Blk.mk [[.int .i64 t.tm, .int .i64 t.nx, .view z 0 (i + 1), .view (n + 4) 0 t.sn.length]] 4 35)) (by omega))
   ·simp only [List.map_cons, List.map_nil, List.mem_cons, List.not_mem_nil, or_false, not_or] at hn
    (try simp (disch := (first | omega | (intro k hk; exact hf k (by omega)))) only [↓appC, ↓updN, ↓updS, ↓app0, ↓famAO])) (by dsimp only; omega)
 ·refine A3 (A1 (wF rfl (E5 (E6 (D7 (C8 (A1 (A2 (A0 ?_)))))))))
  (apply F9 (vs := [.int _ _, .int _ _, _, _]) j2; exact Q3; rfl; rfl; exact kb; rfl; exact j3)
  (apply D4 (u := .agg [.int _ _, .int _ _, _, _]) j3; exact Q3; rfl; rfl; rfl; rfl; rfl; exact kb; rfl; exact j2)
  refine A3 (A1 (A9 ?_))
  obtain rfl : i = t.lk.length := by omega
  obtain rfl : lid = lid0 := by omega
  refine E7 (A5 (A7 rfl (by exact Q3) j2 kb rfl) A8) rfl ?_ (by omega)
  refine leFam (fun i hi => ?_) (fun j hj => ?_) (fun j hl hf hn => ?_)
  ·refine Eq.trans ?_ (famA (w := (fun i => n + 6 + 5 * i + 2)) (fun a b _ _ e => by (try dsimp only at e); omega) hi).symm
   simp (disch := omega) only [↓appC, ↓updN, ↓app0]
   exact famA (w := (fun i => n + 6 + 5 * i + 2)) (fun a b _ _ e => by (try dsimp only at e); omega) hi
  ·simp only [List.map_cons, List.map_nil, List.mem_cons, List.not_mem_nil, or_false] at hj
   refine Eq.trans ?_ (famAO (fun k _ => by rcases hj with e | e <;> rw [e] <;> (try dsimp only) <;> omega)).symm
   rcases hj with e | e <;> rw [e] <;> (simp (disch := (first | omega | (intro _ _; dsimp only; omega))) only [↓appC, ↓updN, ↓updS, ↓app0, ↓famAO]) <;> rfl
  ·simp only [List.map_cons, List.map_nil, List.mem_cons, List.not_mem_nil, or_false, not_or] at hn
   simp (disch := (first | omega | (intro k hk; exact hf k (by omega)))) only [↓appC, ↓updN, ↓updS, ↓app0, ↓famAO]
theorem o58 (t : Tb) (b n1 n2 fr : Bool) (now : Int) {M : Int} (hMx : max t.tm now = M) (hM : 0 ≤ M ∧ M ≤ 1000000000) (hn : 0 ≤ t.nx ∧ t.nx ≤ 999900) (hL : t.lk.length ≤ 100) (hS : t.sn.length ≤ 100) (hw4 : ∀ i, i < t.lk.length → (t.lk.getD i Lk0).ws.length ≤ 100) (hhd0 : ∀ i, i < t.lk.length → -1 ≤ (t.lk.getD i Lk0).hd) (hwl : ∀ j, j < t.lk.length → ∀ i, i < (t.lk.getD j Lk0).ws.length → 1 ≤ ((t.lk.getD j Lk0).ws.getD i (0, 0)).2 ∧ ((t.lk.getD j Lk0).ws.getD i (0, 0)).2 ≤ 1000) {h : Heap} {n : Nat} : OpenM En 58 [.agg [.int .i64 t.tm, .int .i64 t.nx, .sl fr n1 (t.lk.map (Lk.T b)), .sl fr n2 (t.sn.map Sn.T)], .int .i64 now] h n (fun v g m => ∃ Sl Ss W, v = .agg [.int .i64 (exT t now).tm, .int .i64 (exT t now).nx, Sl, Ss] ∧ TabV (exT t now) Sl Ss W g n m ∧ (∀ a, a < n → g a = h a) ∧ n ≤ m) := by
 have hz2 : t.lk.length = 0 ∨ 0 < t.lk.length := by omega
 obtain ⟨lid0, hlid⟩ : ∃ lid0, (lid0 = n + 1 + 1 + 2 ∧ t.lk.length = 0 ∨ lid0 = n + 1 + 1 + 5 * t.lk.length + 5 ∧ 0 < t.lk.length) := by
  rcases hz2 with h | h
  ·exact ⟨_, .inl ⟨rfl, h⟩⟩
  ·exact ⟨_, .inr ⟨rfl, h⟩⟩
 refine OpenM.of_wp Try.func58 rfl kb ?_
 refine A2 (A0 ?_)
 (refine L7 (u := .agg [.int .i64 t.tm, .int .i64 t.nx, .sl fr n1 (t.lk.map (Lk.T b)), .sl fr n2 (t.sn.map Sn.T)]) j3 rfl j3 ?_)
 refine H3 j6 (A3 (A1 (A2 (A0 ?_))))
 (apply F9 (vs := [.int _ _, .int _ _, _, _]) j2; exact Q3; exact Q39; rfl; exact kb; rfl; exact j3)
 refine I9 (o44g t b n1 n2 fr (by omega) (fun i hi => by have := hw4 i hi; omega) (by omega) lid0 hlid) rfl rfl rfl rfl rfl rfl ?_
 refine H3 j6 ?_
 (apply D4 (u := .agg [.int _ _, .int _ _, _, _]) j3; exact Q3; exact Q39; rfl; rfl; rfl; rfl; exact kb; rfl; exact j2)
 refine A3 (A1 (A2 (A0 (C1 (off := 0) (s := 1) (r := false) j3 kz j3 ?_))))
 (apply C5 (v := .int _ _) j2; exact Q3; exact Q39; exact j5)
 refine B6 j5 (rmax rfl j5 (C1 (off := 0) (s := 1) (r := false) j3 kz j3 ?_))
 (apply D4 (u := .int _ _) j3; exact Q3; exact Q39; rfl; rfl; rfl; rfl; exact kb; rfl; exact j2)
 refine A3 (A1 (A2 (A2 (A0 (D0 j5 (A3 (A1 (B3 (F0 ?_)))))))))
 refine wlG fun g0 hg0 => ?_
 have k0 : g0 (n + 1) = some ⟨[[.int .i64 0, .int .i64 0, .nsl, .nsl]], 4, 35⟩ := by rw [hg0]; exact Q3
 have kc : Ch h g0 := by rw [hg0]; (repeat first | exact Ch.refl _ | refine Ch.upd ?_ | refine Ch.app ?_)
 have kh : ∀ a, a < n → g0 a = h a := fun a ha => by
  rw [hg0]; (simp (disch := (first | omega | (intro _ _; dsimp only; omega))) only [↓appC, ↓updN, ↓updS, ↓app0, ↓famAO])
 have hno : ∀ a, a < n + 1 + 1 → ¬ OwnT (n + 1 + 1 + 6 + 5 * t.lk.length) (.view lid0 0 t.lk.length) (.view (n + 1 + 1 + 4) 0 t.sn.length) (fun i => .view ((fun i => n + 1 + 1 + 6 + 5 * i + 2) i) 0 (t.lk.getD i Lk0).ws.length) t.lk.length a := fun a ha o => by
  rcases o with e | e | e | ⟨i, hi, e⟩
  ·omega
  ·cases e; omega
  ·cases e; omega
  ·have e := Option.some.inj e; (try dsimp only at e); omega
 have T0 : TabM (exI t M 0) (n + 1 + 1 + 6 + 5 * t.lk.length) (.view lid0 0 t.lk.length) (.view (n + 1 + 1 + 4) 0 t.sn.length) (fun i => .view ((fun i => n + 1 + 1 + 6 + 5 * i + 2) i) 0 (t.lk.getD i Lk0).ws.length) g0 ((n + 1 + 1 + 6 + 5 * t.lk.length) + 1) := by
  rw [exI_zero]
  refine ⟨by omega, by rw [hg0, ← hMx]; exact Q3, .inr ⟨lid0, by rw [B5], ?_⟩, .inr ⟨n + 1 + 1 + 4, by rw [List.length_map], ?_⟩, fun i hi => .inr ⟨(fun i => n + 1 + 1 + 6 + 5 * i + 2) i, [], by rw [List.length_map]; rfl, ?_⟩, fun a ha => ?_, fun a ha => ?_, fun i a hi ha => ?_⟩
  ·rw [hg0]; refine Eq.trans (b := some ⟨lkR (fun i => n + 1 + 1 + 6 + 5 * i + 2) t.lk, 5, 29⟩) ?_ rfl; exact Q3
  ·rw [hg0]; exact Q3
  ·rw [hg0]; (simp (disch := omega) only [↓appC, ↓updN, ↓app0]); exact famA (w := (fun i => n + 1 + 1 + 6 + 5 * i + 2)) (fun a b _ _ e => by (try dsimp only at e); omega) hi
  ·cases ha; omega
  ·cases ha; refine ⟨by omega, by omega, fun e => by cases e; omega⟩
  ·have hi : i < t.lk.length := hi
   have ha := Option.some.inj ha
   (try dsimp only at ha)
   refine ⟨by omega, by omega, fun e => by cases e; omega, fun e => by cases e; omega, fun j hj hne e => by have hj : j < t.lk.length := hj; have e := Option.some.inj e; (try dsimp only at e); omega⟩
 refine E9 (fun (a : Nat × Nat × (Nat → V) × Heap) => [.unk, .unk, .unk, .unk, .ptr (n + 1) 0 0, .ptr (n + 1 + 1 + 6 + 5 * t.lk.length) 0 0, .int .i64 a.1]) (fun (a : Nat × Nat × (Nat → V) × Heap) => a.2.2.2) (fun (a : Nat × Nat × (Nat → V) × Heap) => a.2.1) (fun (a : Nat × Nat × (Nat → V) × Heap) => GoI t M (n + 1 + 1 + 6 + 5 * t.lk.length) (n + 1 + 1) (.view lid0 0 t.lk.length) (.view (n + 1 + 1 + 4) 0 t.sn.length) (fun i => .view ((fun i => n + 1 + 1 + 6 + 5 * i + 2) i) 0 (t.lk.getD i Lk0).ws.length) g0 a.1 a.2.1 a.2.2.1 a.2.2.2) (fun (a : Nat × Nat × (Nat → V) × Heap) => t.lk.length - a.1) (0, (n + 1 + 1 + 6 + 5 * t.lk.length) + 1, (fun i => .view ((fun i => n + 1 + 1 + 6 + 5 * i + 2) i) 0 (t.lk.getD i Lk0).ws.length), g0) ?_ ?_ ?_ ?_ ?_
 ·exact ⟨Nat.zero_le _, T0, fun j a _ ha => .inl ha, fun _ _ _ => rfl, by dsimp only; omega, Ch.refl _, by rw [List.take_zero]; show t.nx ≤ t.nx ∧ t.nx ≤ t.nx + _; omega⟩
 ·(repeat first | exact LE.nil _ | refine LE.unk _ _ ?_ | refine LE.eq _ _ _ rfl ?_)
 ·exact LessH.refl _
 ·exact Nat.le_refl _
 intro ⟨i, m, W, g⟩ hI ih
 dsimp only at hI ⊢
 have hle := hI.le
 have q1 := hI.T.kid
 have q2 : g lid0 = some ⟨rwW (exM M t.nx t.lk i) W, 5, 29⟩ := by
  rcases hI.T.kl with ⟨e, _⟩ | ⟨b, e, k⟩
  ·cases e
  ·injection e with e1 e2 e3; rw [e1]; exact k
 dsimp only [exI] at q1
 have q3 : g (n + 1) = some ⟨[[.int .i64 0, .int .i64 0, .nsl, .nsl]], 4, 35⟩ := (hI.fr (n + 1) (by omega) (hno _ (by omega))).trans k0
 have hrow : i < t.lk.length → (rwW (exM M t.nx t.lk i) W)[0 + i]? = some ((t.lk.getD i Lk0).V (W i)) := fun h => by
  rw [Nat.zero_add, F4 (by rw [F1]; exact h), AL h, if_neg (Nat.lt_irrefl _)]
 have hkw : i < t.lk.length → IsL g (W i) ((t.lk.getD i Lk0).ws.map wtV) 2 123 := fun h => by
  have := hI.T.kw i (by show i < (exM M t.nx t.lk i).length; rw [F1]; exact h)
  rwa [show (exI t M i).lk.getD i Lk0 = t.lk.getD i Lk0 from by show (exM M t.nx t.lk i).getD i Lk0 = _; rw [AL h, if_neg (Nat.lt_irrefl _)]] at this
 have hhd : i < t.lk.length → -1 ≤ (t.lk.getD i Lk0).hd := fun h => hhd0 i h
 refine E8 (A2 (A2 (A0 (B6 j5 (C1 (off := 2) (s := 1) (r := false) j3 kz j3 ?_)))))
 (apply C5 (v := .view _ _ _) j2; exact Q3; exact Q39; exact j5)
 refine H0 rfl rfl rfl j3 ?_
 refine I6 j6 ?_ ?_ <;> intro h4_4
 ·refine A3 (A1 (wT rfl (B0 (A1 (A2 (B3 (A2 (C2 [0, 1, 0, 7, 15, 31, 63, 127, 255, 511, 255, 2047, 4095, 8191, 255, 16639, 65535, 131071] rfl (by decide +kernel) ?_))))))))
  refine D6 (off := 2) (s := 1) (r := false) j3 kz j3 ?_
  (apply E1 (v := .view _ _ _) j2; exact Q3; exact Q39; exact j5)
  refine I0 j5 ?_
  (apply dixv j4; exact Q3; rfl; exact Q4; exact Q4; exact j3)
  refine D6 (off := 2) (s := 1) (r := false) j3 kz j3 ?_
  (apply E1 (v := .int _ _) j2; exact Q3; exact Q39; exact j5)
  refine dge j6 ?_ ?_ <;> intro h6_6
  ·refine H8 j5 (D6 (off := 2) (s := 1) (r := false) j3 kz j3 ?_)
   (apply E1 (v := .view _ _ _) j2; exact Q3; exact Q39; exact j5)
   refine I0 j5 ?_
   (apply dixv j4; exact Q3; rfl; exact Q4; exact Q4; exact j3)
   refine D6 (off := 3) (s := 1) (r := false) j3 kz j3 ?_
   (apply E1 (v := .int _ _) j2; exact Q3; exact Q39; exact j5)
   refine D6 (off := 0) (s := 1) (r := false) j3 kz j3 ?_
   (apply E1 (v := .int _ _) j2; exact Q3; exact Q39; exact j5)
   refine dle j6 ?_ ?_ <;> intro h6_16
   ·refine G5 (e := true) j6 (B1 18 [0, 0, 1, 0, 1, 0, 1, 0, 1, 0, 0, 0, 1, 0, 1, 0, 1, 0] [] j2 (by decide +kernel) trivial ?_)
    refine A1 (wT rfl (A0 (B6 j5 ?_)))
    refine K7 (o95w (t.lk.getD i Lk0) (W i) M (nxL M t.nx (t.lk.take i)) (.view (n + 1 + 1 + 4) 0 t.sn.length) (by have := hw4 i (by omega); omega) (fun k hk => hwl i (by omega) k hk) hM (by have := hI.nxb; omega) (id := (n + 1 + 1 + 6 + 5 * t.lk.length)) (lb := lid0) (j := i) (len := t.lk.length) (R := rwW (exM M t.nx t.lk i) W) (by have := hI.T.idn; omega) (by have := (hI.T.fl lid0 rfl).1; omega) (hI.T.fl lid0 rfl).2 q1 (by omega) (by rw [B5, F1]; omega) q2 (hrow (by omega)) (hkw (by omega)) (fun a ha => by have := hI.T.fw i a (by show i < (exM M t.nx t.lk i).length; rw [F1]; omega) ha; exact ⟨this.1, fun e => this.2.2.1 (by rw [e]; rfl), this.2.1⟩)) rfl j5 ?_
    rintro p1 h7_1
    try dsimp only at h7_1
    refine A3 (B7 (A1 (A0 (B6 j5 (C3 j3 ?_ ?_ j3 ?_)))))
    ·exact Q4
    ·exact Q4
    refine D0 j5 (A3 (D1 ?_))
    first
    | (have hg : gone M (t.lk.getD i Lk0) := ⟨by omega, by omega⟩
       have hlb := hI.T.fl lid0 rfl
       refine H4 (ih (i + 1, m + 3, _, _) (hI.free (m2 := m + 3) (g2 := app [(lid0, some ⟨(rwW (exM M t.nx t.lk i) W).set (0 + i) ((frL M (nxL M t.nx (t.lk.take i)) (t.lk.getD i Lk0)).V p1.1), 5, 29⟩), ((n + 1 + 1 + 6 + 5 * t.lk.length), some ⟨[[.int .i64 M, .int .i64 (frN (nxL M t.nx (t.lk.take i)) (t.lk.getD i Lk0)), .view lid0 0 t.lk.length, (.view (n + 1 + 1 + 4) 0 t.sn.length)]], 4, 35⟩), (m + 2, p1.2)] g) (by omega) hg (by omega) rfl p1.1 ?_ ?_ ?_ ?_ ?_ (Ch.refl _).app) (by dsimp only; omega)) (by (repeat first | exact LE.nil _ | refine LE.unk _ _ ?_ | refine LE.eq _ _ _ rfl ?_)) (LessH.refl _) (Nat.le_refl _)
       · have := hI.T.idn; (simp (disch := (first | omega | assumption)) only [↓appC, ↓updN, ↓updS, ↓app0])
       · rw [Nat.zero_add]; have := hI.T.idn; (simp (disch := (first | omega | assumption)) only [↓appC, ↓updN, ↓updS, ↓app0])
       · refine h7_1.2 _ (by (simp (disch := (first | omega | assumption)) only [↓appC, ↓updN, ↓updS, ↓app0])) (fun a ha => ?_)
         have q := hI.T.fw i a (by show i < (exM M t.nx t.lk i).length; rw [F1]; omega) ha
         have q3 : a ≠ lid0 := fun e => q.2.2.1 (by rw [e]; rfl)
         have q4 := q.2.1
         have q5 := q.1
         (simp (disch := (first | omega | assumption)) only [↓appC, ↓updN, ↓updS, ↓app0])
       · intro a ha
         rcases h7_1.1 a ha with e | e
         · exact ⟨by omega, .inr (by omega)⟩
         · have q := hI.T.fw i a (by show i < (exM M t.nx t.lk i).length; rw [F1]; omega) e
           exact ⟨by omega, .inl e⟩
       · intro a ha h1 h2
         (simp (disch := (first | omega | assumption)) only [↓appC, ↓updN, ↓updS, ↓app0]))
    | (have hg : ¬ gone M (t.lk.getD i Lk0) := (fun e => by have e1 := e.1; have e2 := e.2; have := hhd (by omega); omega)
       exact H4 (ih (i + 1, m, _, _) (hI.stay (by omega) hg (Nat.le_refl _) (fun _ _ => rfl) (Ch.refl _)) (by dsimp only; omega)) (by (repeat first | exact LE.nil _ | refine LE.unk _ _ ?_ | refine LE.eq _ _ _ rfl ?_)) (LessH.refl _) (Nat.le_refl _))
   ·refine G5 (e := false) j6 (B1 18 [0, 0, 1, 0, 1, 0, 1, 0, 1, 0, 0, 0, 1, 0, 1, 0, 1, 0] [] j2 (by decide +kernel) trivial ?_)
    refine A1 (wF rfl (B0 (B7 (A1 (A0 (B6 j5 (C3 j3 ?_ ?_ j3 ?_)))))))
    ·exact Q4
    ·exact Q4
    refine D0 j5 (A3 (D1 ?_))
    first
    | (have hg : gone M (t.lk.getD i Lk0) := ⟨by omega, by omega⟩
       have hlb := hI.T.fl lid0 rfl
       refine H4 (ih (i + 1, m + 3, _, _) (hI.free (m2 := m + 3) (g2 := app [(lid0, some ⟨(rwW (exM M t.nx t.lk i) W).set (0 + i) ((frL M (nxL M t.nx (t.lk.take i)) (t.lk.getD i Lk0)).V p1.1), 5, 29⟩), ((n + 1 + 1 + 6 + 5 * t.lk.length), some ⟨[[.int .i64 M, .int .i64 (frN (nxL M t.nx (t.lk.take i)) (t.lk.getD i Lk0)), .view lid0 0 t.lk.length, (.view (n + 1 + 1 + 4) 0 t.sn.length)]], 4, 35⟩), (m + 2, p1.2)] g) (by omega) hg (by omega) rfl p1.1 ?_ ?_ ?_ ?_ ?_ (Ch.refl _).app) (by dsimp only; omega)) (by (repeat first | exact LE.nil _ | refine LE.unk _ _ ?_ | refine LE.eq _ _ _ rfl ?_)) (LessH.refl _) (Nat.le_refl _)
       · have := hI.T.idn; (simp (disch := (first | omega | assumption)) only [↓appC, ↓updN, ↓updS, ↓app0])
       · rw [Nat.zero_add]; have := hI.T.idn; (simp (disch := (first | omega | assumption)) only [↓appC, ↓updN, ↓updS, ↓app0])
       · refine h7_1.2 _ (by (simp (disch := (first | omega | assumption)) only [↓appC, ↓updN, ↓updS, ↓app0])) (fun a ha => ?_)
         have q := hI.T.fw i a (by show i < (exM M t.nx t.lk i).length; rw [F1]; omega) ha
         have q3 : a ≠ lid0 := fun e => q.2.2.1 (by rw [e]; rfl)
         have q4 := q.2.1
         have q5 := q.1
         (simp (disch := (first | omega | assumption)) only [↓appC, ↓updN, ↓updS, ↓app0])
       · intro a ha
         rcases h7_1.1 a ha with e | e
         · exact ⟨by omega, .inr (by omega)⟩
         · have q := hI.T.fw i a (by show i < (exM M t.nx t.lk i).length; rw [F1]; omega) e
           exact ⟨by omega, .inl e⟩
       · intro a ha h1 h2
         (simp (disch := (first | omega | assumption)) only [↓appC, ↓updN, ↓updS, ↓app0]))
    | (have hg : ¬ gone M (t.lk.getD i Lk0) := (fun e => by have e1 := e.1; have e2 := e.2; have := hhd (by omega); omega)
       exact H4 (ih (i + 1, m, _, _) (hI.stay (by omega) hg (Nat.le_refl _) (fun _ _ => rfl) (Ch.refl _)) (by dsimp only; omega)) (by (repeat first | exact LE.nil _ | refine LE.unk _ _ ?_ | refine LE.eq _ _ _ rfl ?_)) (LessH.refl _) (Nat.le_refl _))
  ·refine H8 j5 (A6 j3 (A6 j3 (A6 j3 (A6 j3 (A6 j3 (A6 j3 (A6 j3 (A6 j3 (A6 j3 (G5 (e := false) j6 (B1 18 [0, 0, 0, 0, 0, 0, 0, 0, 0, 0, 0, 0, 1, 0, 1, 0, 1, 0] [] j2 (by decide +kernel) trivial ?_)))))))))))
   refine A1 (wF rfl (B0 (B7 (A1 (A0 (B6 j5 (C3 j3 ?_ ?_ j3 ?_)))))))
   ·exact Q4
   ·exact Q4
   refine D0 j5 (A3 (D1 ?_))
   first
   | (have hg : gone M (t.lk.getD i Lk0) := ⟨by omega, by omega⟩
      have hlb := hI.T.fl lid0 rfl
      refine H4 (ih (i + 1, m + 3, _, _) (hI.free (m2 := m + 3) (g2 := app [(lid0, some ⟨(rwW (exM M t.nx t.lk i) W).set (0 + i) ((frL M (nxL M t.nx (t.lk.take i)) (t.lk.getD i Lk0)).V p1.1), 5, 29⟩), ((n + 1 + 1 + 6 + 5 * t.lk.length), some ⟨[[.int .i64 M, .int .i64 (frN (nxL M t.nx (t.lk.take i)) (t.lk.getD i Lk0)), .view lid0 0 t.lk.length, (.view (n + 1 + 1 + 4) 0 t.sn.length)]], 4, 35⟩), (m + 2, p1.2)] g) (by omega) hg (by omega) rfl p1.1 ?_ ?_ ?_ ?_ ?_ (Ch.refl _).app) (by dsimp only; omega)) (by (repeat first | exact LE.nil _ | refine LE.unk _ _ ?_ | refine LE.eq _ _ _ rfl ?_)) (LessH.refl _) (Nat.le_refl _)
      · have := hI.T.idn; (simp (disch := (first | omega | assumption)) only [↓appC, ↓updN, ↓updS, ↓app0])
      · rw [Nat.zero_add]; have := hI.T.idn; (simp (disch := (first | omega | assumption)) only [↓appC, ↓updN, ↓updS, ↓app0])
      · refine h7_1.2 _ (by (simp (disch := (first | omega | assumption)) only [↓appC, ↓updN, ↓updS, ↓app0])) (fun a ha => ?_)
        have q := hI.T.fw i a (by show i < (exM M t.nx t.lk i).length; rw [F1]; omega) ha
        have q3 : a ≠ lid0 := fun e => q.2.2.1 (by rw [e]; rfl)
        have q4 := q.2.1
        have q5 := q.1
        (simp (disch := (first | omega | assumption)) only [↓appC, ↓updN, ↓updS, ↓app0])
      · intro a ha
        rcases h7_1.1 a ha with e | e
        · exact ⟨by omega, .inr (by omega)⟩
        · have q := hI.T.fw i a (by show i < (exM M t.nx t.lk i).length; rw [F1]; omega) e
          exact ⟨by omega, .inl e⟩
      · intro a ha h1 h2
        (simp (disch := (first | omega | assumption)) only [↓appC, ↓updN, ↓updS, ↓app0]))
   | (have hg : ¬ gone M (t.lk.getD i Lk0) := (fun e => by have e1 := e.1; have e2 := e.2; have := hhd (by omega); omega)
      exact H4 (ih (i + 1, m, _, _) (hI.stay (by omega) hg (Nat.le_refl _) (fun _ _ => rfl) (Ch.refl _)) (by dsimp only; omega)) (by (repeat first | exact LE.nil _ | refine LE.unk _ _ ?_ | refine LE.eq _ _ _ rfl ?_)) (LessH.refl _) (Nat.le_refl _))
 ·refine A3 (A1 (wF rfl (E5 (E6 (D7 (C8 (A1 (A2 (A0 ?_)))))))))
  (apply F9 (vs := [.int _ _, .int _ _, _, _]) j2; exact Q3; exact Q39; rfl; exact kb; rfl; exact j3)
  (apply D4 (u := .agg [.int _ _, .int _ _, _, _]) j3; exact Q3; exact Q39; rfl; rfl; rfl; rfl; exact kb; rfl; exact j2)
  refine A3 (A1 (A9 ?_))
  obtain rfl : i = t.lk.length := by omega
  have hfull : exI t M t.lk.length = exT t now := by rw [← hMx, exI_full]
  refine E0 (A5 (A7 rfl (by exact Q3) j2 kb rfl) A8) (Ch.app (kc.trans hI.ch)) ?_
  have T := hI.T
  rw [hfull] at T
  have hlx : (exT t now).lk.length = t.lk.length := N3 _ _ _
  have nn := hI.nn
  refine ⟨.view lid0 0 t.lk.length, (.view (n + 1 + 1 + 4) 0 t.sn.length), W, ?_, ((T.toV (n0 := n + 1 + 1) (fun a o => ?_)).keep (Nat.le_refl _) (fun a h1 h2 => ?_)).low (by omega), fun a ha => ?_, by omega⟩
  ·rw [← hfull]; rfl
  ·rcases o with e | e | e | ⟨j, hj, e⟩
   ·omega
   ·cases e; omega
   ·cases e; omega
   ·rw [hlx] at hj
    rcases hI.fp j a hj e with e2 | e2
    ·have e2 := Option.some.inj e2; (try dsimp only at e2); omega
    ·exact e2
  ·(simp (disch := (first | omega | assumption)) only [↓appC, ↓updN, ↓updS, ↓app0])
  ·rw [show app _ g a = g a from by (simp (disch := (first | omega | assumption)) only [↓appC, ↓updN, ↓updS, ↓app0]), hI.fr a (by omega) (hno a (by omega))]; exact kh a ha
open Go.V
set_option linter.unusedVariables false
set_option linter.unusedSimpArgs false
set_option maxRecDepth 20000
set_option maxHeartbeats 4000000
def tabIds (Sl Ss : V) (W : Nat → V) (k : Nat) : List Nat := (fpV Sl).toList ++ (fpV Ss).toList ++ (List.range k).filterMap fun i => fpV (W i)
theorem tabIds_own {id : Nat} {Sl Ss : V} {W : Nat → V} {k a : Nat} (h : a ∈ tabIds Sl Ss W k) : OwnT id Sl Ss W k a := by
 unfold tabIds at h
 rcases List.mem_append.1 h with h | h
 ·rcases List.mem_append.1 h with h | h
  ·exact .inr (.inl (Option.mem_toList.1 h))
  ·exact .inr (.inr (.inl (Option.mem_toList.1 h)))
 ·obtain ⟨i, h1, h2⟩ := List.mem_filterMap.1 h
  exact .inr (.inr (.inr ⟨i, List.mem_range.1 h1, h2⟩))
theorem snapIsZ {h : Heap} {ids : List Nat} {r : Bool} {v : V} {L : List Sn} (k : IsZ h v (L.map Sn.V) 6 115) (hid : ∀ a, fpV v = some a → a ∈ ids) : Snap h ids r v (.sl false (L.map Sn.T)) := by
 rcases k with ⟨rfl, k⟩ | ⟨id, rfl, k⟩
 ·have : L = [] := List.map_eq_nil_iff.1 k
  subst this; exact .nslW
 ·exact .weak _ _ (snapSn (hid id rfl) k (by simp))
theorem snapRw {h : Heap} {ids : List Nat} {r : Bool} {v : V} {L : List Lk} {W : Nat → V} (k : IsZ h v (rwW L W) 5 29) (hid : ∀ a, fpV v = some a → a ∈ ids) (hw : ∀ i, i < L.length → Snap h ids r (W i) (.sl false ((L.getD i Lk0).ws.map wtT))) : Snap h ids r v (.sl false (L.map (Lk.T false))) := by
 rcases k with ⟨rfl, k⟩ | ⟨id, rfl, k⟩
 ·have hl : L.length = 0 := by have := congrArg List.length k; rw [B5] at this; exact this
  have : L = [] := List.eq_nil_of_length_eq_zero hl
  subst this; exact .nslW
 ·refine .weak _ _ ?_
  have e : ((rwW L W).drop 0).take (rwW L W).length = rwW L W := by rw [List.drop_zero, List.take_of_length_le (Nat.le_refl _)]
  have e2 : ∀ i, i < L.length → (L.map (Lk.T false))[i]? = some ((L.getD i Lk0).T false) := fun i h => D8 (Lk.T false) Lk0 h
  refine .view id 0 _ _ _ (hid id rfl) k (by dsimp only; omega) (by rw [B5]; simp) (fun i x y h1 h2 => ?_) (fun i j x y h1 h2 => ?_)
  ·dsimp only at h1
   rw [e] at h1
   have hi : i < L.length := by have := (List.getElem?_eq_some_iff.1 h1).1; rw [B5] at this; exact this
   rw [F4 hi] at h1; rw [e2 i hi] at h2
   cases h1; cases h2; rfl
  ·dsimp only at h1
   rw [e] at h1
   unfold get2 at h1 h2
   by_cases hi : i < L.length
   ·rw [F4 hi] at h1; rw [e2 i hi] at h2
    match j with
    | 0 => cases h1; cases h2; exact .str _
    | 1 => cases h1; cases h2; exact .int _ _
    | 2 => cases h1; cases h2; exact .int _ _
    | 3 => cases h1; cases h2; exact .int _ _
    | 4 => cases h1; cases h2; exact hw i hi
    | j + 5 => exact absurd h1 nofun
   ·rw [show (rwW L W)[i]? = none from List.getElem?_eq_none (by rw [B5]; omega)] at h1; exact absurd h1 nofun
theorem H2 {t : Tb} {Sl Ss : V} {W : Nat → V} {h : Heap} {ids : List Nat} {r : Bool} (kl : IsZ h Sl (rwW t.lk W) 5 29) (ks : IsZ h Ss (t.sn.map Sn.V) 6 115) (kw : ∀ i, i < t.lk.length → IsL h (W i) ((t.lk.getD i Lk0).ws.map wtV) 2 123) (hid : ∀ a, a ∈ tabIds Sl Ss W t.lk.length → a ∈ ids) :
  SnapA h ids r (.agg [.int .i64 t.tm, .int .i64 t.nx, Sl, Ss]) (.agg (t.T false false false)) :=
 SnapC.agg (.cons _ _ _ _ (.int _ _) (.cons _ _ _ _ (.int _ _) (.cons _ _ _ _ (snapRw kl (fun a ha => hid a (List.mem_append_left _ (List.mem_append_left _ (Option.mem_toList.2 ha)))) (fun i hi => D3 (kw i hi) (fun a ha => hid a (List.mem_append_right _ (List.mem_filterMap.2 ⟨i, List.mem_range.2 hi, ha⟩)))))
  (.cons _ _ _ _ (snapIsZ ks (fun a ha => hid a (List.mem_append_left _ (List.mem_append_right _ (Option.mem_toList.2 ha))))) .nil))))
theorem J9 (l : Lk) (b : Bool) (kd : Int) : Pure En 130 [.one (.int .i64 kd), .agg (l.T b)] [.agg [.int .i64 kd, .int .i64 l.tk, .int .i64 l.hd, .int .i64 l.ex]] := by
 refine Pure.of_wp Try.func130 rfl kb ?_
 refine A2 (A0 ?_)
 (refine L7 (u := .agg [.str l.nm, .int .i64 l.tk, .int .i64 l.hd, .int .i64 l.ex, .sl false b (l.ws.map wtT)]) j3 rfl j3 ?_)
 refine H3 j6 (A3 (A1 (A2 (A0 (B6 j5 (C1 (off := 1) (s := 1) (r := false) j3 kz j3 ?_))))))
 (apply C5 (v := .int _ _) j2; exact Q0; rfl; exact j5)
 refine C1 (off := 2) (s := 1) (r := false) j3 kz j3 ?_
 (apply C5 (v := .int _ _) j2; exact Q0; rfl; exact j5)
 refine C1 (off := 3) (s := 1) (r := false) j3 kz j3 ?_
 (apply C5 (v := .int _ _) j2; exact Q0; rfl; exact j5)
 refine L6 (cs := [.int _ _, .int _ _, .int _ _, .int _ _]) j5 ?_
 (apply D4 (u := .agg [.int _ _, .int _ _, .int _ _, .int _ _]) j3; exact Q0; rfl; rfl; rfl; rfl; rfl; exact kb; rfl; exact j2)
 refine A3 (A1 (A9 ?_))
 exact fin (A5 (A7 rfl (by exact Q0) j2 kb rfl) A8) rfl
theorem s131 (l : Lk) (b : Bool) (c : Int) (hL : l.ws.length ≤ 1048576) : Pure En 131 [.agg (l.T b), .one (.int .i64 c)] [.one (.int .i64 (wix c l.ws))] := by
 have hl : (l.ws.map wtT).length = l.ws.length := List.length_map ..
 refine Pure.of_wp Try.func131 rfl kb ?_
 refine A2 (A0 ?_)
 (refine L7 (u := .agg [.str l.nm, .int .i64 l.tk, .int .i64 l.hd, .int .i64 l.ex, .sl false b (l.ws.map wtT)]) j3 rfl j3 ?_)
 refine D0 j5 (A3 (A1 (A2 (A2 (A0 (D0 j5 (A3 (A1 (B3 (F0 ?_))))))))))
 refine E9 (fun (i : Nat) => [.unk, .int .i64 c, .ptr 0 0 0, .unk, .unk, .int .i64 i]) (fun (i : Nat) => hp [(0, ⟨[[.str l.nm, .int .i64 l.tk, .int .i64 l.hd, .int .i64 l.ex, .sl false b (l.ws.map wtT)]], 5, 29⟩)]) (fun (i : Nat) => 1) (fun (i : Nat) => i ≤ l.ws.length ∧ ∀ j, j < i → ¬ (l.ws.getD j (0, 0)).1 = c) (fun (i : Nat) => l.ws.length - i) 0 ?_ ?_ ?_ ?_ ?_
 ·exact ⟨Nat.zero_le _, W5⟩
 ·(repeat first | exact LE.nil _ | refine LE.unk _ _ ?_ | refine LE.eq _ _ _ rfl ?_)
 ·(repeat first | exact E2 | (refine E3 ?_ ?_; exact S4))
 ·exact Nat.le_refl _
 intro i hI ih
 refine E8 (A2 (A2 (A0 (B6 j5 (C1 (off := 4) (s := 1) (r := false) j3 kz j3 ?_)))))
 (apply C5 (v := .sl _ _ _) j2; exact Q0; rfl; exact j5)
 refine H0 rfl rfl rfl j3 ?_
 refine I6 j6 ?_ ?_ <;> intro h2_4
 ·refine A3 (A1 (wT rfl (B0 (A1 (A2 (B3 (A2 (A0 (C1 (off := 4) (s := 1) (r := false) j3 kz j3 ?_)))))))))
  (apply C5 (v := .sl _ _ _) j2; exact Q0; rfl; exact j5)
  refine B6 j5 ?_
  (apply N0 j4; exact Q4; (first | rfl | assumption | (exact D8 wtT (0, 0) (by omega))); exact j4)
  refine rfai (off := 0) (s := 1) (r := false) j3 kz j4 (rlic (v := .int _ _) j8 (B6 j5 ?_))
  refine H5 j6 ?_ ?_ <;> intro h4_7
  ·refine A3 (A1 (wT rfl (A2 (A0 (B6 j5 (D0 j5 (A3 (A1 (A9 (B4 (B2 (I4 ?_))))))))))))
   refine B4 (B2 ?_)
   rw [AU (i := i) (by omega) h4_7 hI.2]; exact fin rfl rfl
  ·refine A3 (A1 (wF rfl (B0 (B7 (A1 (A0 (B6 j5 (C3 j3 ?_ ?_ j3 ?_))))))))
   ·exact Q4
   ·exact Q4
   refine D0 j5 (A3 (D1 ?_))
   exact H4 (ih (i + 1) ⟨by omega, U7 hI.2 h4_7⟩ (by omega)) (by (repeat first | exact LE.nil _ | refine LE.unk _ _ ?_ | refine LE.eq _ _ _ rfl ?_)) (by (repeat first | exact E2 | (refine E3 ?_ ?_; exact S4))) (Nat.le_refl _)
 ·refine A3 (A1 (wF rfl (E5 (E6 (D7 (C8 (A1 (A2 (A0 (D0 j5 (A3 (A1 ?_))))))))))))
  refine A9 ?_
  rw [AV (fun j hj => hI.2 j (by omega))]; exact fin rfl rfl
end Go.Proofs.Ytknnniaoboaghaa
