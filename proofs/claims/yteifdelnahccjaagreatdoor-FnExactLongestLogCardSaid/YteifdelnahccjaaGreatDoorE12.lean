import Derived.Test.YteifdelnahccjaaGreatDoorE11
namespace Go.Proofs.YteifdelnahccjaaGreatDoor
open Go Go.V
set_option linter.unusedVariables false
set_option linter.unusedSimpArgs false
set_option maxRecDepth 20000
set_option maxHeartbeats 4000000
theorem ot80 (L : List ByteArray) (hb : TB 1048576 (.sl false (L.map tT))) {h : Heap} {n : Nat} : OpenM En 80 [.sl false false (L.map tT)] h n (fun v g m => ∃ id S, v = .view id 0 L.length ∧ Own g (.sl 9 kByteArray) (id :: S) v (.sl false (L.map tT)) ∧ New h n (id :: S) g m ∧ Ch h g) := by
 have hl : (L.map tT).length = L.length := List.length_map ..
 obtain ⟨hm, hs⟩ := (B9 tT (⟨#[]⟩ : ByteArray)).1 hb
 refine OpenM.of_ev (st := [4]) Tryz.func80 rfl kb ?_
 refine emk (s' := 16) j6 kz ?_ ?_ ?_
 ·(first | omega | assumption)
 ·(first | omega | assumption)
 refine wlG fun g0 hg0 => ?_
 refine A9 (fun (a : TO) => [.sl false false (L.map tT), .unk, .unk, .view n 0 (L.map tT).length, .int .i64 a.i]) (fun (a : TO) => a.g) (fun (a : TO) => a.m) (fun (a : TO) => ToI tT (⟨#[]⟩ : ByteArray) 9 kByteArray L n (L.map tT).length h n a) (fun (a : TO) => L.length - a.i) ⟨0, [], n + 1, g0⟩ ?_ ?_ ?_ ?_ ?_
 ·refine ⟨Nat.zero_le _, ?_, by simp, fun j hj => ?_, fun j hj => ?_, Nat.le_succ n, ?_⟩
  ·dsimp only
   rw [mix_zero, hl]
   exact Own.zeros (OwnR.str OwnR.nil) (by rw [hg0]; simp (disch := (first | omega | assumption)) only [↓app0, ↓appC, ↓updS, ↓updN]; rw [← hl]; rfl)
  ·rcases List.mem_cons.1 hj with q | q
   ·subst q; dsimp only; omega
   ·cases q
  ·dsimp only; rw [hg0]; simp (disch := (first | omega | assumption)) only [↓app0, ↓appC, ↓updS, ↓updN]
  ·dsimp only; rw [hg0]; repeat first | exact Ch.refl _ | refine Ch.app ?_
 ·(repeat first | exact LE.nil _ | refine LE.unk _ _ ?_ | refine LE.eq _ _ _ rfl ?_)
 ·exact LessH.refl _
 ·exact Nat.le_refl _
 intro ⟨i, S, m, g⟩ hI ih
 have hil := hI.il
 have hnm := hI.nm
 have hid := hI.rg n List.mem_cons_self
 dsimp only at hil hnm hid ⊢
 refine A3 (st := [4]) ?_
 refine br ?_ ?_ <;> intro h3_3
 ·obtain ⟨R, r, hb0, hrow, ⟨e0, hrl⟩, hstep⟩ := hI.step (by dsimp only; omega)
  dsimp only at hb0 hrow hstep
  (refine C0 (D1 (by first | rfl | assumption | (exact B6 tT (⟨#[]⟩ : ByteArray) (by omega))) rfl ?_))
  (refine D7 (by exact Q1) ⟨rfl, C0 ?_⟩)
  (apply est (ys := [.str ((L.getD i (⟨#[]⟩ : ByteArray)))]) j3; exact Q1; exact hrow; exact j2; rfl; rfl; (exact Nat.le_of_eq hrl.symm); exact E6 (hrl.trans rfl))
  refine H2 fun GG hGG => ?_
  refine C1 ?_
  obtain ⟨S', hT⟩ : ∃ S', ToI tT (⟨#[]⟩ : ByteArray) 9 kByteArray L n (L.map tT).length h n ⟨i + 1, S', m, GG⟩ := by
   refine (hstep g m [] ([.str ((L.getD i (⟨#[]⟩ : ByteArray)))]) GG (OwnR.str OwnR.nil) ⟨List.nodup_nil, (fun j hj => by cases hj), fun j _ => rfl⟩ (Nat.le_refl _) (Ch.refl _) ?_)
   rw [hGG]; rfl
  exact C9 (ih ⟨i + 1, S', m, GG⟩ hT (by dsimp only; omega)) (by (repeat first | exact LE.nil _ | refine LE.unk _ _ ?_ | refine LE.eq _ _ _ rfl ?_)) (LessH.refl _) (Nat.le_refl _)
 ·obtain rfl : i = L.length := by omega
  have how := hI.ow
  have e9 : mix L (List.replicate L.length (⟨#[]⟩ : ByteArray)) L.length = L := by
   have q := mix_full (A := L) (L := List.replicate L.length (⟨#[]⟩ : ByteArray)) (by simp)
   rwa [List.length_replicate] at q
  dsimp only at how
  rw [e9, hl] at how
  exact T7 rfl hI.ch ⟨n, S, congrArg (V.view n 0) hl, (by show Own g _ _ (V.view n 0 (L.map tT).length) _; rw [hl]; exact how), ⟨hI.nd, hI.rg, hI.fr⟩, hI.ch⟩
theorem ot94 (L : List Int) (hb : TB 1048576 (.sl false (L.map iT))) {h : Heap} {n : Nat} : OpenM En 94 [.sl false false (L.map iT)] h n (fun v g m => ∃ id S, v = .view id 0 L.length ∧ Own g (.sl 3 kInt) (id :: S) v (.sl false (L.map iT)) ∧ New h n (id :: S) g m ∧ Ch h g) := by
 have hl : (L.map iT).length = L.length := List.length_map ..
 obtain ⟨hm, hs⟩ := (B9 iT (0 : Int)).1 hb
 refine OpenM.of_ev (st := [4]) Tryz.func94 rfl kb ?_
 refine emk (s' := 8) j6 kz ?_ ?_ ?_
 ·(first | omega | assumption)
 ·(first | omega | assumption)
 refine wlG fun g0 hg0 => ?_
 refine A9 (fun (a : TO) => [.sl false false (L.map iT), .unk, .unk, .view n 0 (L.map iT).length, .int .i64 a.i]) (fun (a : TO) => a.g) (fun (a : TO) => a.m) (fun (a : TO) => ToI iT (0 : Int) 3 kInt L n (L.map iT).length h n a) (fun (a : TO) => L.length - a.i) ⟨0, [], n + 1, g0⟩ ?_ ?_ ?_ ?_ ?_
 ·refine ⟨Nat.zero_le _, ?_, by simp, fun j hj => ?_, fun j hj => ?_, Nat.le_succ n, ?_⟩
  ·dsimp only
   rw [mix_zero, hl]
   exact Own.zeros (OwnR.int OwnR.nil) (by rw [hg0]; simp (disch := (first | omega | assumption)) only [↓app0, ↓appC, ↓updS, ↓updN]; rw [← hl]; rfl)
  ·rcases List.mem_cons.1 hj with q | q
   ·subst q; dsimp only; omega
   ·cases q
  ·dsimp only; rw [hg0]; simp (disch := (first | omega | assumption)) only [↓app0, ↓appC, ↓updS, ↓updN]
  ·dsimp only; rw [hg0]; repeat first | exact Ch.refl _ | refine Ch.app ?_
 ·(repeat first | exact LE.nil _ | refine LE.unk _ _ ?_ | refine LE.eq _ _ _ rfl ?_)
 ·exact LessH.refl _
 ·exact Nat.le_refl _
 intro ⟨i, S, m, g⟩ hI ih
 have hil := hI.il
 have hnm := hI.nm
 have hid := hI.rg n List.mem_cons_self
 dsimp only at hil hnm hid ⊢
 refine A3 (st := [4]) ?_
 refine br ?_ ?_ <;> intro h3_3
 ·obtain ⟨R, r, hb0, hrow, ⟨e0, hrl⟩, hstep⟩ := hI.step (by dsimp only; omega)
  dsimp only at hb0 hrow hstep
  (refine C0 (D1 (by first | rfl | assumption | (exact B6 iT (0 : Int) (by omega))) rfl ?_))
  (refine D7 (by exact Q1) ⟨rfl, C0 ?_⟩)
  (apply est (ys := [.int .i64 ((L.getD i (0 : Int)))]) j3; exact Q1; exact hrow; exact j2; rfl; rfl; (exact Nat.le_of_eq hrl.symm); exact E6 (hrl.trans rfl))
  refine H2 fun GG hGG => ?_
  refine C1 ?_
  obtain ⟨S', hT⟩ : ∃ S', ToI iT (0 : Int) 3 kInt L n (L.map iT).length h n ⟨i + 1, S', m, GG⟩ := by
   refine (hstep g m [] ([.int .i64 ((L.getD i (0 : Int)))]) GG (OwnR.int OwnR.nil) ⟨List.nodup_nil, (fun j hj => by cases hj), fun j _ => rfl⟩ (Nat.le_refl _) (Ch.refl _) ?_)
   rw [hGG]; rfl
  exact C9 (ih ⟨i + 1, S', m, GG⟩ hT (by dsimp only; omega)) (by (repeat first | exact LE.nil _ | refine LE.unk _ _ ?_ | refine LE.eq _ _ _ rfl ?_)) (LessH.refl _) (Nat.le_refl _)
 ·obtain rfl : i = L.length := by omega
  have how := hI.ow
  have e9 : mix L (List.replicate L.length (0 : Int)) L.length = L := by
   have q := mix_full (A := L) (L := List.replicate L.length (0 : Int)) (by simp)
   rwa [List.length_replicate] at q
  dsimp only at how
  rw [e9, hl] at how
  exact T7 rfl hI.ch ⟨n, S, congrArg (V.view n 0) hl, (by show Own g _ _ (V.view n 0 (L.map iT).length) _; rw [hl]; exact how), ⟨hI.nd, hI.rg, hI.fr⟩, hI.ch⟩
theorem ot15 (L : List Msg) (hb : TB 1048576 (.sl false (L.map Msg.T))) {h : Heap} {n : Nat} : OpenM En 15 [.sl false false (L.map Msg.T)] h n (fun v g m => ∃ id S, v = .view id 0 L.length ∧ Own g (.sl 37 kMsg) (id :: S) v (.sl false (L.map Msg.T)) ∧ New h n (id :: S) g m ∧ Ch h g) := by
 have hl : (L.map Msg.T).length = L.length := List.length_map ..
 obtain ⟨hm, hs⟩ := (B9 Msg.T Msg0).1 hb
 refine OpenM.of_ev (st := [4]) Tryz.func15 rfl kb ?_
 refine emk (s' := 80) j6 kz ?_ ?_ ?_
 ·(first | omega | assumption)
 ·(first | omega | assumption)
 refine wlG fun g0 hg0 => ?_
 refine A9 (fun (a : TO) => [.sl false false (L.map Msg.T), .unk, .unk, .view n 0 (L.map Msg.T).length, .int .i64 a.i]) (fun (a : TO) => a.g) (fun (a : TO) => a.m) (fun (a : TO) => ToI Msg.T Msg0 37 kMsg L n (L.map Msg.T).length h n a) (fun (a : TO) => L.length - a.i) ⟨0, [], n + 1, g0⟩ ?_ ?_ ?_ ?_ ?_
 ·refine ⟨Nat.zero_le _, ?_, by simp, fun j hj => ?_, fun j hj => ?_, Nat.le_succ n, ?_⟩
  ·dsimp only
   rw [mix_zero, hl]
   exact Own.zeros (OwnR.int (OwnR.int (OwnR.int (OwnR.int (OwnR.str (OwnR.str (OwnR.str OwnR.nil))))))) (by rw [hg0]; simp (disch := (first | omega | assumption)) only [↓app0, ↓appC, ↓updS, ↓updN]; rw [← hl]; rfl)
  ·rcases List.mem_cons.1 hj with q | q
   ·subst q; dsimp only; omega
   ·cases q
  ·dsimp only; rw [hg0]; simp (disch := (first | omega | assumption)) only [↓app0, ↓appC, ↓updS, ↓updN]
  ·dsimp only; rw [hg0]; repeat first | exact Ch.refl _ | refine Ch.app ?_
 ·(repeat first | exact LE.nil _ | refine LE.unk _ _ ?_ | refine LE.eq _ _ _ rfl ?_)
 ·exact LessH.refl _
 ·exact Nat.le_refl _
 intro ⟨i, S, m, g⟩ hI ih
 have hil := hI.il
 have hnm := hI.nm
 have hid := hI.rg n List.mem_cons_self
 dsimp only at hil hnm hid ⊢
 refine A3 (st := [4]) ?_
 refine br ?_ ?_ <;> intro h3_3
 ·obtain ⟨R, r, hb0, hrow, ⟨e0, hrl⟩, hstep⟩ := hI.step (by dsimp only; omega)
  dsimp only at hb0 hrow hstep
  (refine C0 (D1 (by first | rfl | assumption | (exact B6 Msg.T Msg0 (by omega))) rfl ?_))
  refine C5 (lt61 (L.getD i Msg0) (hs i (by omega))) rfl rfl rfl ?_
  (refine D7 (by exact Q1) ⟨rfl, C0 ?_⟩)
  (apply est (ys := [.int .i64 ((L.getD i Msg0).kd), .int .i64 ((L.getD i Msg0).vw), .int .i64 ((L.getD i Msg0).sq), .int .i64 ((L.getD i Msg0).fr), .str ((L.getD i Msg0).dg), .str ((L.getD i Msg0).bd), .str ((L.getD i Msg0).mc)]) j3; exact Q1; exact hrow; exact j2; rfl; rfl; (exact Nat.le_of_eq hrl.symm); exact E6 (hrl.trans rfl))
  refine H2 fun GG hGG => ?_
  refine C1 ?_
  obtain ⟨S', hT⟩ : ∃ S', ToI Msg.T Msg0 37 kMsg L n (L.map Msg.T).length h n ⟨i + 1, S', m, GG⟩ := by
   refine (hstep g m [] ([.int .i64 ((L.getD i Msg0).kd), .int .i64 ((L.getD i Msg0).vw), .int .i64 ((L.getD i Msg0).sq), .int .i64 ((L.getD i Msg0).fr), .str ((L.getD i Msg0).dg), .str ((L.getD i Msg0).bd), .str ((L.getD i Msg0).mc)]) GG (OwnR.int (OwnR.int (OwnR.int (OwnR.int (OwnR.str (OwnR.str (OwnR.str OwnR.nil))))))) ⟨List.nodup_nil, (fun j hj => by cases hj), fun j _ => rfl⟩ (Nat.le_refl _) (Ch.refl _) ?_)
   rw [hGG]; rfl
  exact C9 (ih ⟨i + 1, S', m, GG⟩ hT (by dsimp only; omega)) (by (repeat first | exact LE.nil _ | refine LE.unk _ _ ?_ | refine LE.eq _ _ _ rfl ?_)) (LessH.refl _) (Nat.le_refl _)
 ·obtain rfl : i = L.length := by omega
  have how := hI.ow
  have e9 : mix L (List.replicate L.length Msg0) L.length = L := by
   have q := mix_full (A := L) (L := List.replicate L.length Msg0) (by simp)
   rwa [List.length_replicate] at q
  dsimp only at how
  rw [e9, hl] at how
  exact T7 rfl hI.ch ⟨n, S, congrArg (V.view n 0) hl, (by show Own g _ _ (V.view n 0 (L.map Msg.T).length) _; rw [hl]; exact how), ⟨hI.nd, hI.rg, hI.fr⟩, hI.ch⟩
theorem ot157 (s : Ct) (hb : TBs 1048576 ((Ct.T false) s)) {h : Heap} {n : Nat} : OpenM En 157 [.agg (((Ct.T false) s).map (T.toV false))] h n (fun v g m => ∃ S c, v = .agg c ∧ OwnR g kCt S c ((Ct.T false) s) ∧ New h n S g m ∧ Ch h g) := by
 obtain ⟨b0, b1⟩ := Ct.tb.1 hb
 refine OpenM.of_ev (st := []) Tryz.func157 rfl kb ?_
 refine A2 ?_ (by exact Q1) (by rfl)
 (apply est (u := .str _) j3; exact Q1; rfl; exact j2; rfl; rfl; exact kb; rfl)
 refine A2 ?_ (by exact Q1) (by rfl)
 refine E9 (ot15 s.ps b1) rfl j2 ?_
 rintro v1 wr1 m1 ⟨p1, S1, rfl, o1, N1, ch1⟩ hle1
 have hf1 := N1.fr
 have hb1_0 := (hf1 (n) (by omega)).trans (by (repeat first | with_reducible assumption | exact H4 (by omega) rfl | apply D8 (by omega)))
 have hb1_1 := (hf1 (n + 1) (by omega)).trans (by (repeat first | with_reducible assumption | exact H4 (by omega) rfl | apply D8 (by omega)))
 have hb1_2 := (hf1 (n + 1 + 1) (by omega)).trans (by (repeat first | with_reducible assumption | exact H4 (by omega) rfl | apply D8 (by omega)))
 (apply est  j3; exact Q1; rfl; exact j2; rfl; rfl; exact kb; rfl)
 (apply D2 (vs := [.str _, _]) j2; exact Q1; rfl; rfl; exact kb; rfl)
 (apply est (u := .agg [.str _, _]) j3; exact Q1; rfl; exact j2; rfl; rfl; exact kb; rfl)
 refine T7 (xs := [.agg [.str (s.bd), .view p1 0 (s.ps).length]]) (A0 (A4 rfl (by exact Q1) j2 kb rfl) A1) (by repeat first | exact Ch.refl _ | refine Ch.app ?_) ?_
 refine ⟨_, _, rfl, (OwnR.str (.cons _ _ _ _ _ _ _ _ (o1.congr (fun j hj => by
   have z1 := N1.rg j hj
   (repeat first | with_reducible rfl | refine D8 (by omega) ?_))) OwnR.nil)), New.of (Rng.mono (Rng.app N1.rng (Rng.nil (a := m1) (b := m1)))) (fun j hj => by (repeat first | with_reducible rfl | refine D8 (by omega) ?_ | refine (hf1 j (by omega)).trans ?_)), (by repeat first | exact Ch.refl _ | refine Ch.app ?_)⟩
theorem ot79 (L : List Ct) (hb : TB 1048576 (.sl false (L.map (Ct.T false)))) {h : Heap} {n : Nat} : OpenM En 79 [.sl false false (L.map (Ct.T false))] h n (fun v g m => ∃ id S, v = .view id 0 L.length ∧ Own g (.sl 44 kCt) (id :: S) v (.sl false (L.map (Ct.T false))) ∧ New h n (id :: S) g m ∧ Ch h g) := by
 have hl : (L.map (Ct.T false)).length = L.length := List.length_map ..
 obtain ⟨hm, hs⟩ := (B9 (Ct.T false) Ct0).1 hb
 refine OpenM.of_ev (st := [4]) Tryz.func79 rfl kb ?_
 refine emk (s' := 40) j6 kz ?_ ?_ ?_
 ·(first | omega | assumption)
 ·(first | omega | assumption)
 refine wlG fun g0 hg0 => ?_
 refine A9 (fun (a : TO) => [.sl false false (L.map (Ct.T false)), .unk, .unk, .view n 0 (L.map (Ct.T false)).length, .int .i64 a.i]) (fun (a : TO) => a.g) (fun (a : TO) => a.m) (fun (a : TO) => ToI (Ct.T false) Ct0 44 kCt L n (L.map (Ct.T false)).length h n a) (fun (a : TO) => L.length - a.i) ⟨0, [], n + 1, g0⟩ ?_ ?_ ?_ ?_ ?_
 ·refine ⟨Nat.zero_le _, ?_, by simp, fun j hj => ?_, fun j hj => ?_, Nat.le_succ n, ?_⟩
  ·dsimp only
   rw [mix_zero, hl]
   exact Own.zeros (OwnR.str (OwnR.nsl OwnR.nil)) (by rw [hg0]; simp (disch := (first | omega | assumption)) only [↓app0, ↓appC, ↓updS, ↓updN]; rw [← hl]; rfl)
  ·rcases List.mem_cons.1 hj with q | q
   ·subst q; dsimp only; omega
   ·cases q
  ·dsimp only; rw [hg0]; simp (disch := (first | omega | assumption)) only [↓app0, ↓appC, ↓updS, ↓updN]
  ·dsimp only; rw [hg0]; repeat first | exact Ch.refl _ | refine Ch.app ?_
 ·(repeat first | exact LE.nil _ | refine LE.unk _ _ ?_ | refine LE.eq _ _ _ rfl ?_)
 ·exact LessH.refl _
 ·exact Nat.le_refl _
 intro ⟨i, S, m, g⟩ hI ih
 have hil := hI.il
 have hnm := hI.nm
 have hid := hI.rg n List.mem_cons_self
 dsimp only at hil hnm hid ⊢
 refine A3 (st := [4]) ?_
 refine br ?_ ?_ <;> intro h3_3
 ·obtain ⟨R, r, hb0, hrow, ⟨e0, hrl⟩, hstep⟩ := hI.step (by dsimp only; omega)
  dsimp only at hb0 hrow hstep
  (refine C0 (D1 (by first | rfl | assumption | (exact B6 (Ct.T false) Ct0 (by omega))) rfl ?_))
  refine E9 (ot157 (L.getD i Ct0) (hs i (by omega))) rfl j2 ?_
  rintro v wr m1 ⟨S3, c, rfl, oc, hN, hc1⟩ hle
  have hb1 := (hN.fr n (by omega)).trans hb0
  refine gotRA ?_
  (refine D7 (by exact Q1) ⟨rfl, C0 ?_⟩)
  (apply est (u := .agg c) (ys := c) j3; exact Q1; exact hrow; exact j2; (exact oc.len); (exact oc.cell); (exact Nat.le_of_eq hrl.symm); exact E6 (hrl.trans oc.len.symm))
  refine H2 fun GG hGG => ?_
  refine C1 ?_
  obtain ⟨S', hT⟩ : ∃ S', ToI (Ct.T false) Ct0 44 kCt L n (L.map (Ct.T false)).length h n ⟨i + 1, S', m1, GG⟩ := by
   refine (hstep _ m1 S3 c GG oc hN hle hc1 ?_)
   rw [hGG]; rfl
  exact C9 (ih ⟨i + 1, S', m1, GG⟩ hT (by dsimp only; omega)) (by (repeat first | exact LE.nil _ | refine LE.unk _ _ ?_ | refine LE.eq _ _ _ rfl ?_)) (LessH.refl _) (Nat.le_refl _)
 ·obtain rfl : i = L.length := by omega
  have how := hI.ow
  have e9 : mix L (List.replicate L.length Ct0) L.length = L := by
   have q := mix_full (A := L) (L := List.replicate L.length Ct0) (by simp)
   rwa [List.length_replicate] at q
  dsimp only at how
  rw [e9, hl] at how
  exact T7 rfl hI.ch ⟨n, S, congrArg (V.view n 0) hl, (by show Own g _ _ (V.view n 0 (L.map (Ct.T false)).length) _; rw [hl]; exact how), ⟨hI.nd, hI.rg, hI.fr⟩, hI.ch⟩
theorem ot156 (s : Slt) (hb : TBs 1048576 (Slt.T s)) {h : Heap} {n : Nat} : OpenM En 156 [.agg ((Slt.T s).map (T.toV false))] h n (fun v g m => ∃ S c, v = .agg c ∧ OwnR g kSlt S c (Slt.T s) ∧ New h n S g m ∧ Ch h g) := by
 obtain ⟨b0, b1, b2⟩ := Slt.tb.1 hb
 refine OpenM.of_ev (st := []) Tryz.func156 rfl kb ?_
 refine A2 ?_ (by exact Q1) (by rfl)
 (apply est (u := .str _) j3; exact Q1; rfl; exact j2; rfl; rfl; exact kb; rfl)
 refine A2 ?_ (by exact Q1) (by rfl)
 refine E9 (ot15 s.pr b1) rfl j2 ?_
 rintro v1 wr1 m1 ⟨p1, S1, rfl, o1, N1, ch1⟩ hle1
 have hf1 := N1.fr
 have hb1_0 := (hf1 (n) (by omega)).trans (by (repeat first | with_reducible assumption | exact H4 (by omega) rfl | apply D8 (by omega)))
 have hb1_1 := (hf1 (n + 1) (by omega)).trans (by (repeat first | with_reducible assumption | exact H4 (by omega) rfl | apply D8 (by omega)))
 have hb1_2 := (hf1 (n + 1 + 1) (by omega)).trans (by (repeat first | with_reducible assumption | exact H4 (by omega) rfl | apply D8 (by omega)))
 (apply est  j3; exact Q1; rfl; exact j2; rfl; rfl; exact kb; rfl)
 refine A2 ?_ (by exact Q1) (by rfl)
 refine E9 (ot15 s.cm b2) rfl j2 ?_
 rintro v2 wr2 m2 ⟨p2, S2, rfl, o2, N2, ch2⟩ hle2
 have hf2 := N2.fr
 have hb2_0 := (hf2 (n) (by omega)).trans (by (repeat first | with_reducible assumption | exact H4 (by omega) rfl | apply D8 (by omega)))
 have hb2_1 := (hf2 (n + 1) (by omega)).trans (by (repeat first | with_reducible assumption | exact H4 (by omega) rfl | apply D8 (by omega)))
 have hb2_2 := (hf2 (n + 1 + 1) (by omega)).trans (by (repeat first | with_reducible assumption | exact H4 (by omega) rfl | apply D8 (by omega)))
 (apply est  j3; exact Q1; rfl; exact j2; rfl; rfl; exact kb; rfl)
 refine A2 ?_ (by exact Q1) (by rfl)
 refine brB ?_ ?_ <;> intro h5_1
 ·(apply est (u := .bool _) j3; exact Q1; rfl; exact j2; rfl; rfl; exact kb; rfl)
  refine A2 ?_ (by exact Q1) (by rfl)
  refine brB ?_ ?_ <;> intro h6_1
  ·(apply est (u := .bool _) j3; exact Q1; rfl; exact j2; rfl; rfl; exact kb; rfl)
   (apply D2 (vs := [.str _, _, _, .bool _, .bool _]) j2; exact Q1; rfl; rfl; exact kb; rfl)
   (apply est (u := .agg [.str _, _, _, .bool _, .bool _]) j3; exact Q1; rfl; exact j2; rfl; rfl; exact kb; rfl)
   refine T7 (xs := [.agg [.str (s.bd), .view p1 0 (s.pr).length, .view p2 0 (s.cm).length, .bool _, .bool _]]) (A0 (A4 rfl (by exact Q1) j2 kb rfl) A1) (by repeat first | exact Ch.refl _ | refine Ch.app ?_) ?_
   refine ⟨_, _, rfl, (OwnR.str (.cons _ _ _ _ _ _ _ _ (o1.congr (fun j hj => by
     have z1 := N1.rg j hj
     (repeat first | with_reducible rfl | refine D8 (by omega) ?_ | refine (hf2 j (by omega)).trans ?_))) (.cons _ _ _ _ _ _ _ _ (o2.congr (fun j hj => by
     have z1 := N2.rg j hj
     (repeat first | with_reducible rfl | refine D8 (by omega) ?_))) (OwnR.boolE (by assumption) (OwnR.boolE (by assumption) OwnR.nil))))), New.of (Rng.mono (Rng.app N1.rng (Rng.app N2.rng (Rng.nil (a := m2) (b := m2))))) (fun j hj => by (repeat first | with_reducible rfl | refine D8 (by omega) ?_ | refine (hf1 j (by omega)).trans ?_ | refine (hf2 j (by omega)).trans ?_)), (by repeat first | exact Ch.refl _ | refine Ch.app ?_)⟩
  ·(apply est (u := .bool _) j3; exact Q1; rfl; exact j2; rfl; rfl; exact kb; rfl)
   (apply D2 (vs := [.str _, _, _, .bool _, .bool _]) j2; exact Q1; rfl; rfl; exact kb; rfl)
   (apply est (u := .agg [.str _, _, _, .bool _, .bool _]) j3; exact Q1; rfl; exact j2; rfl; rfl; exact kb; rfl)
   refine T7 (xs := [.agg [.str (s.bd), .view p1 0 (s.pr).length, .view p2 0 (s.cm).length, .bool _, .bool _]]) (A0 (A4 rfl (by exact Q1) j2 kb rfl) A1) (by repeat first | exact Ch.refl _ | refine Ch.app ?_) ?_
   refine ⟨_, _, rfl, (OwnR.str (.cons _ _ _ _ _ _ _ _ (o1.congr (fun j hj => by
     have z1 := N1.rg j hj
     (repeat first | with_reducible rfl | refine D8 (by omega) ?_ | refine (hf2 j (by omega)).trans ?_))) (.cons _ _ _ _ _ _ _ _ (o2.congr (fun j hj => by
     have z1 := N2.rg j hj
     (repeat first | with_reducible rfl | refine D8 (by omega) ?_))) (OwnR.boolE (by assumption) (OwnR.boolE (by assumption) OwnR.nil))))), New.of (Rng.mono (Rng.app N1.rng (Rng.app N2.rng (Rng.nil (a := m2) (b := m2))))) (fun j hj => by (repeat first | with_reducible rfl | refine D8 (by omega) ?_ | refine (hf1 j (by omega)).trans ?_ | refine (hf2 j (by omega)).trans ?_)), (by repeat first | exact Ch.refl _ | refine Ch.app ?_)⟩
 ·(apply est (u := .bool _) j3; exact Q1; rfl; exact j2; rfl; rfl; exact kb; rfl)
  refine A2 ?_ (by exact Q1) (by rfl)
  refine brB ?_ ?_ <;> intro h6_1
  ·(apply est (u := .bool _) j3; exact Q1; rfl; exact j2; rfl; rfl; exact kb; rfl)
   (apply D2 (vs := [.str _, _, _, .bool _, .bool _]) j2; exact Q1; rfl; rfl; exact kb; rfl)
   (apply est (u := .agg [.str _, _, _, .bool _, .bool _]) j3; exact Q1; rfl; exact j2; rfl; rfl; exact kb; rfl)
   refine T7 (xs := [.agg [.str (s.bd), .view p1 0 (s.pr).length, .view p2 0 (s.cm).length, .bool _, .bool _]]) (A0 (A4 rfl (by exact Q1) j2 kb rfl) A1) (by repeat first | exact Ch.refl _ | refine Ch.app ?_) ?_
   refine ⟨_, _, rfl, (OwnR.str (.cons _ _ _ _ _ _ _ _ (o1.congr (fun j hj => by
     have z1 := N1.rg j hj
     (repeat first | with_reducible rfl | refine D8 (by omega) ?_ | refine (hf2 j (by omega)).trans ?_))) (.cons _ _ _ _ _ _ _ _ (o2.congr (fun j hj => by
     have z1 := N2.rg j hj
     (repeat first | with_reducible rfl | refine D8 (by omega) ?_))) (OwnR.boolE (by assumption) (OwnR.boolE (by assumption) OwnR.nil))))), New.of (Rng.mono (Rng.app N1.rng (Rng.app N2.rng (Rng.nil (a := m2) (b := m2))))) (fun j hj => by (repeat first | with_reducible rfl | refine D8 (by omega) ?_ | refine (hf1 j (by omega)).trans ?_ | refine (hf2 j (by omega)).trans ?_)), (by repeat first | exact Ch.refl _ | refine Ch.app ?_)⟩
  ·(apply est (u := .bool _) j3; exact Q1; rfl; exact j2; rfl; rfl; exact kb; rfl)
   (apply D2 (vs := [.str _, _, _, .bool _, .bool _]) j2; exact Q1; rfl; rfl; exact kb; rfl)
   (apply est (u := .agg [.str _, _, _, .bool _, .bool _]) j3; exact Q1; rfl; exact j2; rfl; rfl; exact kb; rfl)
   refine T7 (xs := [.agg [.str (s.bd), .view p1 0 (s.pr).length, .view p2 0 (s.cm).length, .bool _, .bool _]]) (A0 (A4 rfl (by exact Q1) j2 kb rfl) A1) (by repeat first | exact Ch.refl _ | refine Ch.app ?_) ?_
   refine ⟨_, _, rfl, (OwnR.str (.cons _ _ _ _ _ _ _ _ (o1.congr (fun j hj => by
     have z1 := N1.rg j hj
     (repeat first | with_reducible rfl | refine D8 (by omega) ?_ | refine (hf2 j (by omega)).trans ?_))) (.cons _ _ _ _ _ _ _ _ (o2.congr (fun j hj => by
     have z1 := N2.rg j hj
     (repeat first | with_reducible rfl | refine D8 (by omega) ?_))) (OwnR.boolE (by assumption) (OwnR.boolE (by assumption) OwnR.nil))))), New.of (Rng.mono (Rng.app N1.rng (Rng.app N2.rng (Rng.nil (a := m2) (b := m2))))) (fun j hj => by (repeat first | with_reducible rfl | refine D8 (by omega) ?_ | refine (hf1 j (by omega)).trans ?_ | refine (hf2 j (by omega)).trans ?_)), (by repeat first | exact Ch.refl _ | refine Ch.app ?_)⟩
theorem ot78 (L : List Slt) (hb : TB 1048576 (.sl false (L.map Slt.T))) {h : Heap} {n : Nat} : OpenM En 78 [.sl false false (L.map Slt.T)] h n (fun v g m => ∃ id S, v = .view id 0 L.length ∧ Own g (.sl 80 kSlt) (id :: S) v (.sl false (L.map Slt.T)) ∧ New h n (id :: S) g m ∧ Ch h g) := by
 have hl : (L.map Slt.T).length = L.length := List.length_map ..
 obtain ⟨hm, hs⟩ := (B9 Slt.T Slt0).1 hb
 refine OpenM.of_ev (st := [4]) Tryz.func78 rfl kb ?_
 refine emk (s' := 72) j6 kz ?_ ?_ ?_
 ·(first | omega | assumption)
 ·(first | omega | assumption)
 refine wlG fun g0 hg0 => ?_
 refine A9 (fun (a : TO) => [.sl false false (L.map Slt.T), .unk, .unk, .view n 0 (L.map Slt.T).length, .int .i64 a.i]) (fun (a : TO) => a.g) (fun (a : TO) => a.m) (fun (a : TO) => ToI Slt.T Slt0 80 kSlt L n (L.map Slt.T).length h n a) (fun (a : TO) => L.length - a.i) ⟨0, [], n + 1, g0⟩ ?_ ?_ ?_ ?_ ?_
 ·refine ⟨Nat.zero_le _, ?_, by simp, fun j hj => ?_, fun j hj => ?_, Nat.le_succ n, ?_⟩
  ·dsimp only
   rw [mix_zero, hl]
   exact Own.zeros (OwnR.str (OwnR.nsl (OwnR.nsl (OwnR.bool (OwnR.bool OwnR.nil))))) (by rw [hg0]; simp (disch := (first | omega | assumption)) only [↓app0, ↓appC, ↓updS, ↓updN]; rw [← hl]; rfl)
  ·rcases List.mem_cons.1 hj with q | q
   ·subst q; dsimp only; omega
   ·cases q
  ·dsimp only; rw [hg0]; simp (disch := (first | omega | assumption)) only [↓app0, ↓appC, ↓updS, ↓updN]
  ·dsimp only; rw [hg0]; repeat first | exact Ch.refl _ | refine Ch.app ?_
 ·(repeat first | exact LE.nil _ | refine LE.unk _ _ ?_ | refine LE.eq _ _ _ rfl ?_)
 ·exact LessH.refl _
 ·exact Nat.le_refl _
 intro ⟨i, S, m, g⟩ hI ih
 have hil := hI.il
 have hnm := hI.nm
 have hid := hI.rg n List.mem_cons_self
 dsimp only at hil hnm hid ⊢
 refine A3 (st := [4]) ?_
 refine br ?_ ?_ <;> intro h3_3
 ·obtain ⟨R, r, hb0, hrow, ⟨e0, hrl⟩, hstep⟩ := hI.step (by dsimp only; omega)
  dsimp only at hb0 hrow hstep
  (refine C0 (D1 (by first | rfl | assumption | (exact B6 Slt.T Slt0 (by omega))) rfl ?_))
  refine E9 (ot156 (L.getD i Slt0) (hs i (by omega))) rfl j2 ?_
  rintro v wr m1 ⟨S3, c, rfl, oc, hN, hc1⟩ hle
  have hb1 := (hN.fr n (by omega)).trans hb0
  refine gotRA ?_
  (refine D7 (by exact Q1) ⟨rfl, C0 ?_⟩)
  (apply est (u := .agg c) (ys := c) j3; exact Q1; exact hrow; exact j2; (exact oc.len); (exact oc.cell); (exact Nat.le_of_eq hrl.symm); exact E6 (hrl.trans oc.len.symm))
  refine H2 fun GG hGG => ?_
  refine C1 ?_
  obtain ⟨S', hT⟩ : ∃ S', ToI Slt.T Slt0 80 kSlt L n (L.map Slt.T).length h n ⟨i + 1, S', m1, GG⟩ := by
   refine (hstep _ m1 S3 c GG oc hN hle hc1 ?_)
   rw [hGG]; rfl
  exact C9 (ih ⟨i + 1, S', m1, GG⟩ hT (by dsimp only; omega)) (by (repeat first | exact LE.nil _ | refine LE.unk _ _ ?_ | refine LE.eq _ _ _ rfl ?_)) (LessH.refl _) (Nat.le_refl _)
 ·obtain rfl : i = L.length := by omega
  have how := hI.ow
  have e9 : mix L (List.replicate L.length Slt0) L.length = L := by
   have q := mix_full (A := L) (L := List.replicate L.length Slt0) (by simp)
   rwa [List.length_replicate] at q
  dsimp only at how
  rw [e9, hl] at how
  exact T7 rfl hI.ch ⟨n, S, congrArg (V.view n 0) hl, (by show Own g _ _ (V.view n 0 (L.map Slt.T).length) _; rw [hl]; exact how), ⟨hI.nd, hI.rg, hI.fr⟩, hI.ch⟩
theorem ot28 (s : Rep) (hb : TBs 1048576 (Rep.T s)) {h : Heap} {n : Nat} : OpenM En 28 [.agg ((Rep.T s).map (T.toV false))] h n (fun v g m => ∃ S c, v = .agg c ∧ OwnR g kRep S c (Rep.T s) ∧ New h n S g m ∧ Ch h g) := by
 obtain ⟨b0, b1, b2, b3⟩ := Rep.tb.1 hb
 refine OpenM.of_ev (st := []) Tryz.func28 rfl kb ?_
 refine A2 ?_ (by exact Q1) (by rfl)
 (apply est (u := .int _ _) j3; exact Q1; rfl; exact j2; rfl; rfl; exact kb; rfl)
 refine A2 ?_ (by exact Q1) (by rfl)
 (apply est (u := .int _ _) j3; exact Q1; rfl; exact j2; rfl; rfl; exact kb; rfl)
 refine A2 ?_ (by exact Q1) (by rfl)
 (apply est (u := .int _ _) j3; exact Q1; rfl; exact j2; rfl; rfl; exact kb; rfl)
 refine A2 ?_ (by exact Q1) (by rfl)
 refine brB ?_ ?_ <;> intro h5_1
 ·(apply est (u := .bool _) j3; exact Q1; rfl; exact j2; rfl; rfl; exact kb; rfl)
  refine A2 ?_ (by exact Q1) (by rfl)
  refine E9 (ot78 s.sl b0) rfl j2 ?_
  rintro v1 wr1 m1 ⟨p1, S1, rfl, o1, N1, ch1⟩ hle1
  have hf1 := N1.fr
  have hb1_0 := (hf1 (n) (by omega)).trans (by (repeat first | with_reducible assumption | exact H4 (by omega) rfl | apply D8 (by omega)))
  have hb1_1 := (hf1 (n + 1) (by omega)).trans (by (repeat first | with_reducible assumption | exact H4 (by omega) rfl | apply D8 (by omega)))
  have hb1_2 := (hf1 (n + 1 + 1) (by omega)).trans (by (repeat first | with_reducible assumption | exact H4 (by omega) rfl | apply D8 (by omega)))
  (apply est  j3; exact Q1; rfl; exact j2; rfl; rfl; exact kb; rfl)
  refine A2 ?_ (by exact Q1) (by rfl)
  refine E9 (ot79 s.cs b1) rfl j2 ?_
  rintro v2 wr2 m2 ⟨p2, S2, rfl, o2, N2, ch2⟩ hle2
  have hf2 := N2.fr
  have hb2_0 := (hf2 (n) (by omega)).trans (by (repeat first | with_reducible assumption | exact H4 (by omega) rfl | apply D8 (by omega)))
  have hb2_1 := (hf2 (n + 1) (by omega)).trans (by (repeat first | with_reducible assumption | exact H4 (by omega) rfl | apply D8 (by omega)))
  have hb2_2 := (hf2 (n + 1 + 1) (by omega)).trans (by (repeat first | with_reducible assumption | exact H4 (by omega) rfl | apply D8 (by omega)))
  (apply est  j3; exact Q1; rfl; exact j2; rfl; rfl; exact kb; rfl)
  refine A2 ?_ (by exact Q1) (by rfl)
  refine E9 (ot80 s.lg b2) rfl j2 ?_
  rintro v3 wr3 m3 ⟨p3, S3, rfl, o3, N3, ch3⟩ hle3
  have hf3 := N3.fr
  have hb3_0 := (hf3 (n) (by omega)).trans (by (repeat first | with_reducible assumption | exact H4 (by omega) rfl | apply D8 (by omega)))
  have hb3_1 := (hf3 (n + 1) (by omega)).trans (by (repeat first | with_reducible assumption | exact H4 (by omega) rfl | apply D8 (by omega)))
  have hb3_2 := (hf3 (n + 1 + 1) (by omega)).trans (by (repeat first | with_reducible assumption | exact H4 (by omega) rfl | apply D8 (by omega)))
  (apply est  j3; exact Q1; rfl; exact j2; rfl; rfl; exact kb; rfl)
  refine A2 ?_ (by exact Q1) (by rfl)
  refine E9 (ot15 s.ch b3) rfl j2 ?_
  rintro v4 wr4 m4 ⟨p4, S4, rfl, o4, N4, ch4⟩ hle4
  have hf4 := N4.fr
  have hb4_0 := (hf4 (n) (by omega)).trans (by (repeat first | with_reducible assumption | exact H4 (by omega) rfl | apply D8 (by omega)))
  have hb4_1 := (hf4 (n + 1) (by omega)).trans (by (repeat first | with_reducible assumption | exact H4 (by omega) rfl | apply D8 (by omega)))
  have hb4_2 := (hf4 (n + 1 + 1) (by omega)).trans (by (repeat first | with_reducible assumption | exact H4 (by omega) rfl | apply D8 (by omega)))
  (apply est  j3; exact Q1; rfl; exact j2; rfl; rfl; exact kb; rfl)
  (apply D2 (vs := [.int _ _, .int _ _, .int _ _, .bool _, _, _, _, _]) j2; exact Q1; rfl; rfl; exact kb; rfl)
  (apply est (u := .agg [.int _ _, .int _ _, .int _ _, .bool _, _, _, _, _]) j3; exact Q1; rfl; exact j2; rfl; rfl; exact kb; rfl)
  refine T7 (xs := [.agg [.int .i64 (s.id), .int .i64 (s.nd), .int .i64 (s.vw), .bool _, .view p1 0 (s.sl).length, .view p2 0 (s.cs).length, .view p3 0 (s.lg).length, .view p4 0 (s.ch).length]]) (A0 (A4 rfl (by exact Q1) j2 kb rfl) A1) (by repeat first | exact Ch.refl _ | refine Ch.app ?_) ?_
  refine ⟨_, _, rfl, (OwnR.int (OwnR.int (OwnR.int (OwnR.boolE (by assumption) (.cons _ _ _ _ _ _ _ _ (o1.congr (fun j hj => by
    have z1 := N1.rg j hj
    (repeat first | with_reducible rfl | refine D8 (by omega) ?_ | refine (hf2 j (by omega)).trans ?_ | refine (hf3 j (by omega)).trans ?_ | refine (hf4 j (by omega)).trans ?_))) (.cons _ _ _ _ _ _ _ _ (o2.congr (fun j hj => by
    have z1 := N2.rg j hj
    (repeat first | with_reducible rfl | refine D8 (by omega) ?_ | refine (hf3 j (by omega)).trans ?_ | refine (hf4 j (by omega)).trans ?_))) (.cons _ _ _ _ _ _ _ _ (o3.congr (fun j hj => by
    have z1 := N3.rg j hj
    (repeat first | with_reducible rfl | refine D8 (by omega) ?_ | refine (hf4 j (by omega)).trans ?_))) (.cons _ _ _ _ _ _ _ _ (o4.congr (fun j hj => by
    have z1 := N4.rg j hj
    (repeat first | with_reducible rfl | refine D8 (by omega) ?_))) OwnR.nil)))))))), New.of (Rng.mono (Rng.app N1.rng (Rng.app N2.rng (Rng.app N3.rng (Rng.app N4.rng (Rng.nil (a := m4) (b := m4))))))) (fun j hj => by (repeat first | with_reducible rfl | refine D8 (by omega) ?_ | refine (hf1 j (by omega)).trans ?_ | refine (hf2 j (by omega)).trans ?_ | refine (hf3 j (by omega)).trans ?_ | refine (hf4 j (by omega)).trans ?_)), (by repeat first | exact Ch.refl _ | refine Ch.app ?_)⟩
 ·(apply est (u := .bool _) j3; exact Q1; rfl; exact j2; rfl; rfl; exact kb; rfl)
  refine A2 ?_ (by exact Q1) (by rfl)
  refine E9 (ot78 s.sl b0) rfl j2 ?_
  rintro v1 wr1 m1 ⟨p1, S1, rfl, o1, N1, ch1⟩ hle1
  have hf1 := N1.fr
  have hb1_0 := (hf1 (n) (by omega)).trans (by (repeat first | with_reducible assumption | exact H4 (by omega) rfl | apply D8 (by omega)))
  have hb1_1 := (hf1 (n + 1) (by omega)).trans (by (repeat first | with_reducible assumption | exact H4 (by omega) rfl | apply D8 (by omega)))
  have hb1_2 := (hf1 (n + 1 + 1) (by omega)).trans (by (repeat first | with_reducible assumption | exact H4 (by omega) rfl | apply D8 (by omega)))
  (apply est  j3; exact Q1; rfl; exact j2; rfl; rfl; exact kb; rfl)
  refine A2 ?_ (by exact Q1) (by rfl)
  refine E9 (ot79 s.cs b1) rfl j2 ?_
  rintro v2 wr2 m2 ⟨p2, S2, rfl, o2, N2, ch2⟩ hle2
  have hf2 := N2.fr
  have hb2_0 := (hf2 (n) (by omega)).trans (by (repeat first | with_reducible assumption | exact H4 (by omega) rfl | apply D8 (by omega)))
  have hb2_1 := (hf2 (n + 1) (by omega)).trans (by (repeat first | with_reducible assumption | exact H4 (by omega) rfl | apply D8 (by omega)))
  have hb2_2 := (hf2 (n + 1 + 1) (by omega)).trans (by (repeat first | with_reducible assumption | exact H4 (by omega) rfl | apply D8 (by omega)))
  (apply est  j3; exact Q1; rfl; exact j2; rfl; rfl; exact kb; rfl)
  refine A2 ?_ (by exact Q1) (by rfl)
  refine E9 (ot80 s.lg b2) rfl j2 ?_
  rintro v3 wr3 m3 ⟨p3, S3, rfl, o3, N3, ch3⟩ hle3
  have hf3 := N3.fr
  have hb3_0 := (hf3 (n) (by omega)).trans (by (repeat first | with_reducible assumption | exact H4 (by omega) rfl | apply D8 (by omega)))
  have hb3_1 := (hf3 (n + 1) (by omega)).trans (by (repeat first | with_reducible assumption | exact H4 (by omega) rfl | apply D8 (by omega)))
  have hb3_2 := (hf3 (n + 1 + 1) (by omega)).trans (by (repeat first | with_reducible assumption | exact H4 (by omega) rfl | apply D8 (by omega)))
  (apply est  j3; exact Q1; rfl; exact j2; rfl; rfl; exact kb; rfl)
  refine A2 ?_ (by exact Q1) (by rfl)
  refine E9 (ot15 s.ch b3) rfl j2 ?_
  rintro v4 wr4 m4 ⟨p4, S4, rfl, o4, N4, ch4⟩ hle4
  have hf4 := N4.fr
  have hb4_0 := (hf4 (n) (by omega)).trans (by (repeat first | with_reducible assumption | exact H4 (by omega) rfl | apply D8 (by omega)))
  have hb4_1 := (hf4 (n + 1) (by omega)).trans (by (repeat first | with_reducible assumption | exact H4 (by omega) rfl | apply D8 (by omega)))
  have hb4_2 := (hf4 (n + 1 + 1) (by omega)).trans (by (repeat first | with_reducible assumption | exact H4 (by omega) rfl | apply D8 (by omega)))
  (apply est  j3; exact Q1; rfl; exact j2; rfl; rfl; exact kb; rfl)
  (apply D2 (vs := [.int _ _, .int _ _, .int _ _, .bool _, _, _, _, _]) j2; exact Q1; rfl; rfl; exact kb; rfl)
  (apply est (u := .agg [.int _ _, .int _ _, .int _ _, .bool _, _, _, _, _]) j3; exact Q1; rfl; exact j2; rfl; rfl; exact kb; rfl)
  refine T7 (xs := [.agg [.int .i64 (s.id), .int .i64 (s.nd), .int .i64 (s.vw), .bool _, .view p1 0 (s.sl).length, .view p2 0 (s.cs).length, .view p3 0 (s.lg).length, .view p4 0 (s.ch).length]]) (A0 (A4 rfl (by exact Q1) j2 kb rfl) A1) (by repeat first | exact Ch.refl _ | refine Ch.app ?_) ?_
  refine ⟨_, _, rfl, (OwnR.int (OwnR.int (OwnR.int (OwnR.boolE (by assumption) (.cons _ _ _ _ _ _ _ _ (o1.congr (fun j hj => by
    have z1 := N1.rg j hj
    (repeat first | with_reducible rfl | refine D8 (by omega) ?_ | refine (hf2 j (by omega)).trans ?_ | refine (hf3 j (by omega)).trans ?_ | refine (hf4 j (by omega)).trans ?_))) (.cons _ _ _ _ _ _ _ _ (o2.congr (fun j hj => by
    have z1 := N2.rg j hj
    (repeat first | with_reducible rfl | refine D8 (by omega) ?_ | refine (hf3 j (by omega)).trans ?_ | refine (hf4 j (by omega)).trans ?_))) (.cons _ _ _ _ _ _ _ _ (o3.congr (fun j hj => by
    have z1 := N3.rg j hj
    (repeat first | with_reducible rfl | refine D8 (by omega) ?_ | refine (hf4 j (by omega)).trans ?_))) (.cons _ _ _ _ _ _ _ _ (o4.congr (fun j hj => by
    have z1 := N4.rg j hj
    (repeat first | with_reducible rfl | refine D8 (by omega) ?_))) OwnR.nil)))))))), New.of (Rng.mono (Rng.app N1.rng (Rng.app N2.rng (Rng.app N3.rng (Rng.app N4.rng (Rng.nil (a := m4) (b := m4))))))) (fun j hj => by (repeat first | with_reducible rfl | refine D8 (by omega) ?_ | refine (hf1 j (by omega)).trans ?_ | refine (hf2 j (by omega)).trans ?_ | refine (hf3 j (by omega)).trans ?_ | refine (hf4 j (by omega)).trans ?_)), (by repeat first | exact Ch.refl _ | refine Ch.app ?_)⟩
theorem ot95 (L : List Rep) (hb : TB 1048576 (.sl false (L.map Rep.T))) {h : Heap} {n : Nat} : OpenM En 95 [.sl false false (L.map Rep.T)] h n (fun v g m => ∃ id S, v = .view id 0 L.length ∧ Own g (.sl 54 kRep) (id :: S) v (.sl false (L.map Rep.T)) ∧ New h n (id :: S) g m ∧ Ch h g) := by
 have hl : (L.map Rep.T).length = L.length := List.length_map ..
 obtain ⟨hm, hs⟩ := (B9 Rep.T Rep0).1 hb
 refine OpenM.of_ev (st := [4]) Tryz.func95 rfl kb ?_
 refine emk (s' := 128) j6 kz ?_ ?_ ?_
 ·(first | omega | assumption)
 ·(first | omega | assumption)
 refine wlG fun g0 hg0 => ?_
 refine A9 (fun (a : TO) => [.sl false false (L.map Rep.T), .unk, .unk, .view n 0 (L.map Rep.T).length, .int .i64 a.i]) (fun (a : TO) => a.g) (fun (a : TO) => a.m) (fun (a : TO) => ToI Rep.T Rep0 54 kRep L n (L.map Rep.T).length h n a) (fun (a : TO) => L.length - a.i) ⟨0, [], n + 1, g0⟩ ?_ ?_ ?_ ?_ ?_
 ·refine ⟨Nat.zero_le _, ?_, by simp, fun j hj => ?_, fun j hj => ?_, Nat.le_succ n, ?_⟩
  ·dsimp only
   rw [mix_zero, hl]
   exact Own.zeros (OwnR.int (OwnR.int (OwnR.int (OwnR.bool (OwnR.nsl (OwnR.nsl (OwnR.nsl (OwnR.nsl OwnR.nil)))))))) (by rw [hg0]; simp (disch := (first | omega | assumption)) only [↓app0, ↓appC, ↓updS, ↓updN]; rw [← hl]; rfl)
  ·rcases List.mem_cons.1 hj with q | q
   ·subst q; dsimp only; omega
   ·cases q
  ·dsimp only; rw [hg0]; simp (disch := (first | omega | assumption)) only [↓app0, ↓appC, ↓updS, ↓updN]
  ·dsimp only; rw [hg0]; repeat first | exact Ch.refl _ | refine Ch.app ?_
 ·(repeat first | exact LE.nil _ | refine LE.unk _ _ ?_ | refine LE.eq _ _ _ rfl ?_)
 ·exact LessH.refl _
 ·exact Nat.le_refl _
 intro ⟨i, S, m, g⟩ hI ih
 have hil := hI.il
 have hnm := hI.nm
 have hid := hI.rg n List.mem_cons_self
 dsimp only at hil hnm hid ⊢
 refine A3 (st := [4]) ?_
 refine br ?_ ?_ <;> intro h3_3
 ·obtain ⟨R, r, hb0, hrow, ⟨e0, hrl⟩, hstep⟩ := hI.step (by dsimp only; omega)
  dsimp only at hb0 hrow hstep
  (refine C0 (D1 (by first | rfl | assumption | (exact B6 Rep.T Rep0 (by omega))) rfl ?_))
  refine E9 (ot28 (L.getD i Rep0) (hs i (by omega))) rfl j2 ?_
  rintro v wr m1 ⟨S3, c, rfl, oc, hN, hc1⟩ hle
  have hb1 := (hN.fr n (by omega)).trans hb0
  refine gotRA ?_
  (refine D7 (by exact Q1) ⟨rfl, C0 ?_⟩)
  (apply est (u := .agg c) (ys := c) j3; exact Q1; exact hrow; exact j2; (exact oc.len); (exact oc.cell); (exact Nat.le_of_eq hrl.symm); exact E6 (hrl.trans oc.len.symm))
  refine H2 fun GG hGG => ?_
  refine C1 ?_
  obtain ⟨S', hT⟩ : ∃ S', ToI Rep.T Rep0 54 kRep L n (L.map Rep.T).length h n ⟨i + 1, S', m1, GG⟩ := by
   refine (hstep _ m1 S3 c GG oc hN hle hc1 ?_)
   rw [hGG]; rfl
  exact C9 (ih ⟨i + 1, S', m1, GG⟩ hT (by dsimp only; omega)) (by (repeat first | exact LE.nil _ | refine LE.unk _ _ ?_ | refine LE.eq _ _ _ rfl ?_)) (LessH.refl _) (Nat.le_refl _)
 ·obtain rfl : i = L.length := by omega
  have how := hI.ow
  have e9 : mix L (List.replicate L.length Rep0) L.length = L := by
   have q := mix_full (A := L) (L := List.replicate L.length Rep0) (by simp)
   rwa [List.length_replicate] at q
  dsimp only at how
  rw [e9, hl] at how
  exact T7 rfl hI.ch ⟨n, S, congrArg (V.view n 0) hl, (by show Own g _ _ (V.view n 0 (L.map Rep.T).length) _; rw [hl]; exact how), ⟨hI.nd, hI.rg, hI.fr⟩, hI.ch⟩
theorem ot96 (L : List Pc) (hb : TB 1048576 (.sl false (L.map Pc.T))) {h : Heap} {n : Nat} : OpenM En 96 [.sl false false (L.map Pc.T)] h n (fun v g m => ∃ id S, v = .view id 0 L.length ∧ Own g (.sl 130 kPc) (id :: S) v (.sl false (L.map Pc.T)) ∧ New h n (id :: S) g m ∧ Ch h g) := by
 have hl : (L.map Pc.T).length = L.length := List.length_map ..
 obtain ⟨hm, hs⟩ := (B9 Pc.T Pc0).1 hb
 refine OpenM.of_ev (st := [4]) Tryz.func96 rfl kb ?_
 refine emk (s' := 88) j6 kz ?_ ?_ ?_
 ·(first | omega | assumption)
 ·(first | omega | assumption)
 refine wlG fun g0 hg0 => ?_
 refine A9 (fun (a : TO) => [.sl false false (L.map Pc.T), .unk, .unk, .view n 0 (L.map Pc.T).length, .int .i64 a.i]) (fun (a : TO) => a.g) (fun (a : TO) => a.m) (fun (a : TO) => ToI Pc.T Pc0 130 kPc L n (L.map Pc.T).length h n a) (fun (a : TO) => L.length - a.i) ⟨0, [], n + 1, g0⟩ ?_ ?_ ?_ ?_ ?_
 ·refine ⟨Nat.zero_le _, ?_, by simp, fun j hj => ?_, fun j hj => ?_, Nat.le_succ n, ?_⟩
  ·dsimp only
   rw [mix_zero, hl]
   exact Own.zeros (OwnR.int (OwnR.int (OwnR.int (OwnR.int (OwnR.int (OwnR.str (OwnR.str (OwnR.str OwnR.nil)))))))) (by rw [hg0]; simp (disch := (first | omega | assumption)) only [↓app0, ↓appC, ↓updS, ↓updN]; rw [← hl]; rfl)
  ·rcases List.mem_cons.1 hj with q | q
   ·subst q; dsimp only; omega
   ·cases q
  ·dsimp only; rw [hg0]; simp (disch := (first | omega | assumption)) only [↓app0, ↓appC, ↓updS, ↓updN]
  ·dsimp only; rw [hg0]; repeat first | exact Ch.refl _ | refine Ch.app ?_
 ·(repeat first | exact LE.nil _ | refine LE.unk _ _ ?_ | refine LE.eq _ _ _ rfl ?_)
 ·exact LessH.refl _
 ·exact Nat.le_refl _
 intro ⟨i, S, m, g⟩ hI ih
 have hil := hI.il
 have hnm := hI.nm
 have hid := hI.rg n List.mem_cons_self
 dsimp only at hil hnm hid ⊢
 refine A3 (st := [4]) ?_
 refine br ?_ ?_ <;> intro h3_3
 ·obtain ⟨R, r, hb0, hrow, ⟨e0, hrl⟩, hstep⟩ := hI.step (by dsimp only; omega)
  dsimp only at hb0 hrow hstep
  (refine C0 (D1 (by first | rfl | assumption | (exact B6 Pc.T Pc0 (by omega))) rfl ?_))
  refine C5 (lt168 (L.getD i Pc0) (hs i (by omega))) rfl rfl rfl ?_
  (refine D7 (by exact Q1) ⟨rfl, C0 ?_⟩)
  (apply est (ys := [.int .i64 ((L.getD i Pc0).to), .int .i64 ((L.getD i Pc0).ms.kd), .int .i64 ((L.getD i Pc0).ms.vw), .int .i64 ((L.getD i Pc0).ms.sq), .int .i64 ((L.getD i Pc0).ms.fr), .str ((L.getD i Pc0).ms.dg), .str ((L.getD i Pc0).ms.bd), .str ((L.getD i Pc0).ms.mc)]) j3; exact Q1; exact hrow; exact j2; rfl; rfl; (exact Nat.le_of_eq hrl.symm); exact E6 (hrl.trans rfl))
  refine H2 fun GG hGG => ?_
  refine C1 ?_
  obtain ⟨S', hT⟩ : ∃ S', ToI Pc.T Pc0 130 kPc L n (L.map Pc.T).length h n ⟨i + 1, S', m, GG⟩ := by
   refine (hstep g m [] ([.int .i64 ((L.getD i Pc0).to), .int .i64 ((L.getD i Pc0).ms.kd), .int .i64 ((L.getD i Pc0).ms.vw), .int .i64 ((L.getD i Pc0).ms.sq), .int .i64 ((L.getD i Pc0).ms.fr), .str ((L.getD i Pc0).ms.dg), .str ((L.getD i Pc0).ms.bd), .str ((L.getD i Pc0).ms.mc)]) GG (OwnR.int (OwnR.int (OwnR.int (OwnR.int (OwnR.int (OwnR.str (OwnR.str (OwnR.str OwnR.nil)))))))) ⟨List.nodup_nil, (fun j hj => by cases hj), fun j _ => rfl⟩ (Nat.le_refl _) (Ch.refl _) ?_)
   rw [hGG]; rfl
  exact C9 (ih ⟨i + 1, S', m, GG⟩ hT (by dsimp only; omega)) (by (repeat first | exact LE.nil _ | refine LE.unk _ _ ?_ | refine LE.eq _ _ _ rfl ?_)) (LessH.refl _) (Nat.le_refl _)
 ·obtain rfl : i = L.length := by omega
  have how := hI.ow
  have e9 : mix L (List.replicate L.length Pc0) L.length = L := by
   have q := mix_full (A := L) (L := List.replicate L.length Pc0) (by simp)
   rwa [List.length_replicate] at q
  dsimp only at how
  rw [e9, hl] at how
  exact T7 rfl hI.ch ⟨n, S, congrArg (V.view n 0) hl, (by show Own g _ _ (V.view n 0 (L.map Pc.T).length) _; rw [hl]; exact how), ⟨hI.nd, hI.rg, hI.fr⟩, hI.ch⟩
theorem ot33 (s : Grp) (hb : TBs 1048576 (Grp.T s)) {h : Heap} {n : Nat} : OpenM En 33 [.agg ((Grp.T s).map (T.toV false))] h n (fun v g m => ∃ S c, v = .agg c ∧ OwnR g kGrp S c (Grp.T s) ∧ New h n S g m ∧ Ch h g) := by
 obtain ⟨b0, b1, b2, b3⟩ := Grp.tb.1 hb
 refine OpenM.of_ev (st := []) Tryz.func33 rfl kb ?_
 refine A2 ?_ (by exact Q1) (by rfl)
 (apply est (u := .int _ _) j3; exact Q1; rfl; exact j2; rfl; rfl; exact kb; rfl)
 refine A2 ?_ (by exact Q1) (by rfl)
 refine E9 (ot94 s.fa b0) rfl j2 ?_
 rintro v1 wr1 m1 ⟨p1, S1, rfl, o1, N1, ch1⟩ hle1
 have hf1 := N1.fr
 have hb1_0 := (hf1 (n) (by omega)).trans (by (repeat first | with_reducible assumption | exact H4 (by omega) rfl | apply D8 (by omega)))
 have hb1_1 := (hf1 (n + 1) (by omega)).trans (by (repeat first | with_reducible assumption | exact H4 (by omega) rfl | apply D8 (by omega)))
 have hb1_2 := (hf1 (n + 1 + 1) (by omega)).trans (by (repeat first | with_reducible assumption | exact H4 (by omega) rfl | apply D8 (by omega)))
 (apply est  j3; exact Q1; rfl; exact j2; rfl; rfl; exact kb; rfl)
 refine A2 ?_ (by exact Q1) (by rfl)
 refine E9 (ot95 s.rs b1) rfl j2 ?_
 rintro v2 wr2 m2 ⟨p2, S2, rfl, o2, N2, ch2⟩ hle2
 have hf2 := N2.fr
 have hb2_0 := (hf2 (n) (by omega)).trans (by (repeat first | with_reducible assumption | exact H4 (by omega) rfl | apply D8 (by omega)))
 have hb2_1 := (hf2 (n + 1) (by omega)).trans (by (repeat first | with_reducible assumption | exact H4 (by omega) rfl | apply D8 (by omega)))
 have hb2_2 := (hf2 (n + 1 + 1) (by omega)).trans (by (repeat first | with_reducible assumption | exact H4 (by omega) rfl | apply D8 (by omega)))
 (apply est  j3; exact Q1; rfl; exact j2; rfl; rfl; exact kb; rfl)
 refine A2 ?_ (by exact Q1) (by rfl)
 refine E9 (ot96 s.wi b2) rfl j2 ?_
 rintro v3 wr3 m3 ⟨p3, S3, rfl, o3, N3, ch3⟩ hle3
 have hf3 := N3.fr
 have hb3_0 := (hf3 (n) (by omega)).trans (by (repeat first | with_reducible assumption | exact H4 (by omega) rfl | apply D8 (by omega)))
 have hb3_1 := (hf3 (n + 1) (by omega)).trans (by (repeat first | with_reducible assumption | exact H4 (by omega) rfl | apply D8 (by omega)))
 have hb3_2 := (hf3 (n + 1 + 1) (by omega)).trans (by (repeat first | with_reducible assumption | exact H4 (by omega) rfl | apply D8 (by omega)))
 (apply est  j3; exact Q1; rfl; exact j2; rfl; rfl; exact kb; rfl)
 refine A2 ?_ (by exact Q1) (by rfl)
 refine E9 (ot15 s.se b3) rfl j2 ?_
 rintro v4 wr4 m4 ⟨p4, S4, rfl, o4, N4, ch4⟩ hle4
 have hf4 := N4.fr
 have hb4_0 := (hf4 (n) (by omega)).trans (by (repeat first | with_reducible assumption | exact H4 (by omega) rfl | apply D8 (by omega)))
 have hb4_1 := (hf4 (n + 1) (by omega)).trans (by (repeat first | with_reducible assumption | exact H4 (by omega) rfl | apply D8 (by omega)))
 have hb4_2 := (hf4 (n + 1 + 1) (by omega)).trans (by (repeat first | with_reducible assumption | exact H4 (by omega) rfl | apply D8 (by omega)))
 (apply est  j3; exact Q1; rfl; exact j2; rfl; rfl; exact kb; rfl)
 (apply D2 (vs := [.int _ _, _, _, _, _]) j2; exact Q1; rfl; rfl; exact kb; rfl)
 (apply est (u := .agg [.int _ _, _, _, _, _]) j3; exact Q1; rfl; exact j2; rfl; rfl; exact kb; rfl)
 refine T7 (xs := [.agg [.int .i64 (s.nd), .view p1 0 (s.fa).length, .view p2 0 (s.rs).length, .view p3 0 (s.wi).length, .view p4 0 (s.se).length]]) (A0 (A4 rfl (by exact Q1) j2 kb rfl) A1) (by repeat first | exact Ch.refl _ | refine Ch.app ?_) ?_
 refine ⟨_, _, rfl, (OwnR.int (.cons _ _ _ _ _ _ _ _ (o1.congr (fun j hj => by
   have z1 := N1.rg j hj
   (repeat first | with_reducible rfl | refine D8 (by omega) ?_ | refine (hf2 j (by omega)).trans ?_ | refine (hf3 j (by omega)).trans ?_ | refine (hf4 j (by omega)).trans ?_))) (.cons _ _ _ _ _ _ _ _ (o2.congr (fun j hj => by
   have z1 := N2.rg j hj
   (repeat first | with_reducible rfl | refine D8 (by omega) ?_ | refine (hf3 j (by omega)).trans ?_ | refine (hf4 j (by omega)).trans ?_))) (.cons _ _ _ _ _ _ _ _ (o3.congr (fun j hj => by
   have z1 := N3.rg j hj
   (repeat first | with_reducible rfl | refine D8 (by omega) ?_ | refine (hf4 j (by omega)).trans ?_))) (.cons _ _ _ _ _ _ _ _ (o4.congr (fun j hj => by
   have z1 := N4.rg j hj
   (repeat first | with_reducible rfl | refine D8 (by omega) ?_))) OwnR.nil))))), New.of (Rng.mono (Rng.app N1.rng (Rng.app N2.rng (Rng.app N3.rng (Rng.app N4.rng (Rng.nil (a := m4) (b := m4))))))) (fun j hj => by (repeat first | with_reducible rfl | refine D8 (by omega) ?_ | refine (hf1 j (by omega)).trans ?_ | refine (hf2 j (by omega)).trans ?_ | refine (hf3 j (by omega)).trans ?_ | refine (hf4 j (by omega)).trans ?_)), (by repeat first | exact Ch.refl _ | refine Ch.app ?_)⟩
open Go Go.V
set_option linter.unusedVariables false
set_option linter.unusedSimpArgs false
set_option maxRecDepth 20000
set_option maxHeartbeats 4000000
theorem oms42 (s : Grp) (k : Int) (hk : 0 ≤ k) (hc : k + (ct0Grp s : Int) ≤ 1099511627775) {S : List Nat} {c : List V} {h : Heap} {n : Nat} (ho : OwnR h kGrp S c (Grp.T s)) (hnd : S.Nodup) (hlt : ∀ j ∈ S, j < n) :
  OpenM En 42 [.agg c, .int .i64 k] h n (fun u g m => u = .int .i64 (k + (ct0Grp s : Int)) ∧ OwnR g kGrp S c (Grp.T (mk0Grp k s)) ∧ Fr h n S g ∧ Ch h g) := by
 have hce : ct0Grp s = ctL ctInt s.fa + ctL ctRep s.rs + ctL ctPc s.wi + ctL ctMsg s.se := rfl
 obtain ⟨_, rfl, ho1⟩ := ho.flat_inv
 obtain ⟨P1, Sx1, w1, _, rfl, rfl, o1, ho2⟩ := ho1.cons_inv
 obtain ⟨P2, Sx2, w2, _, rfl, rfl, o2, ho3⟩ := ho2.cons_inv
 obtain ⟨P3, Sx3, w3, _, rfl, rfl, o3, ho4⟩ := ho3.cons_inv
 obtain ⟨P4, Sx4, w4, _, rfl, rfl, o4, ho5⟩ := ho4.cons_inv
 obtain ⟨rfl, rfl⟩ := ho5.nil_inv
 have hd1 : ∀ j ∈ P1, j < n ∧ j ∉ P2 ∧ j ∉ P3 ∧ j ∉ P4 := fun j hj => ⟨hlt j (by simp [hj]), (fun q => F3 hnd (A := P1) (B := P2) hj q (by simp only [List.count_cons, List.count_append, List.count_nil]; omega)), (fun q => F3 hnd (A := P1) (B := P3) hj q (by simp only [List.count_cons, List.count_append, List.count_nil]; omega)), (fun q => F3 hnd (A := P1) (B := P4) hj q (by simp only [List.count_cons, List.count_append, List.count_nil]; omega))⟩
 have np1 : P1.Nodup := ndp hnd fun j => (by simp only [List.count_cons, List.count_append, List.count_nil]; omega)
 have hd2 : ∀ j ∈ P2, j < n ∧ j ∉ P1 ∧ j ∉ P3 ∧ j ∉ P4 := fun j hj => ⟨hlt j (by simp [hj]), (fun q => F3 hnd (A := P2) (B := P1) hj q (by simp only [List.count_cons, List.count_append, List.count_nil]; omega)), (fun q => F3 hnd (A := P2) (B := P3) hj q (by simp only [List.count_cons, List.count_append, List.count_nil]; omega)), (fun q => F3 hnd (A := P2) (B := P4) hj q (by simp only [List.count_cons, List.count_append, List.count_nil]; omega))⟩
 have np2 : P2.Nodup := ndp hnd fun j => (by simp only [List.count_cons, List.count_append, List.count_nil]; omega)
 have hd3 : ∀ j ∈ P3, j < n ∧ j ∉ P1 ∧ j ∉ P2 ∧ j ∉ P4 := fun j hj => ⟨hlt j (by simp [hj]), (fun q => F3 hnd (A := P3) (B := P1) hj q (by simp only [List.count_cons, List.count_append, List.count_nil]; omega)), (fun q => F3 hnd (A := P3) (B := P2) hj q (by simp only [List.count_cons, List.count_append, List.count_nil]; omega)), (fun q => F3 hnd (A := P3) (B := P4) hj q (by simp only [List.count_cons, List.count_append, List.count_nil]; omega))⟩
 have np3 : P3.Nodup := ndp hnd fun j => (by simp only [List.count_cons, List.count_append, List.count_nil]; omega)
 have hd4 : ∀ j ∈ P4, j < n ∧ j ∉ P1 ∧ j ∉ P2 ∧ j ∉ P3 := fun j hj => ⟨hlt j (by simp [hj]), (fun q => F3 hnd (A := P4) (B := P1) hj q (by simp only [List.count_cons, List.count_append, List.count_nil]; omega)), (fun q => F3 hnd (A := P4) (B := P2) hj q (by simp only [List.count_cons, List.count_append, List.count_nil]; omega)), (fun q => F3 hnd (A := P4) (B := P3) hj q (by simp only [List.count_cons, List.count_append, List.count_nil]; omega))⟩
 have np4 : P4.Nodup := ndp hnd fun j => (by simp only [List.count_cons, List.count_append, List.count_nil]; omega)
 have e1 := o1.len0
 have e2 := o2.len0
 have e3 := o3.len0
 have e4 := o4.len0
 rcases e1 with ⟨rfl, -, -⟩ | ⟨i1, R1, B1, rfl, -, -, -⟩ <;> rcases e2 with ⟨rfl, -, -⟩ | ⟨i2, R2, B2, rfl, -, -, -⟩ <;> rcases e3 with ⟨rfl, -, -⟩ | ⟨i3, R3, B3, rfl, -, -, -⟩ <;> rcases e4 with ⟨rfl, -, -⟩ | ⟨i4, R4, B4, rfl, -, -, -⟩
 all_goals
  refine OpenM.of_ev (st := []) Tryz.func42 rfl kb ?_
  refine A2 ?_ (by exact Q1) (by rfl)
  refine E9 (om111 s.fa (k) (by omega) (by omega) (o1.congr (fun j hj => by
   obtain ⟨z0, z1, z2, z3⟩ := hd1 j hj
   (repeat first | with_reducible rfl | refine D8 (by omega) ?_))) np1 (fun j hj => by
   obtain ⟨z0, z1, z2, z3⟩ := hd1 j hj
   omega)) rfl j2 ?_
  rintro v1 wr1 m1 ⟨rfl, p1, hf1, ch1⟩ hle1
  unfold Fr at hf1
  have hb1 := (hf1 n (by omega) (fun q => by have := hlt n (by simp [q]); omega)).trans (by (repeat first | with_reducible assumption | exact H4 (by omega) rfl | apply D8 (by omega)))
  refine A2 ?_ (by exact Q1) (by rfl)
  refine E9 (om112 s.rs (k + (ctL ctInt s.fa : Int)) (by omega) (by omega) (o2.congr (fun j hj => by
   obtain ⟨z0, z1, z2, z3⟩ := hd2 j hj
   (repeat first | with_reducible rfl | refine D8 (by omega) ?_ | refine (hf1 j (by omega) (by assumption)).trans ?_))) np2 (fun j hj => by
   obtain ⟨z0, z1, z2, z3⟩ := hd2 j hj
   omega)) rfl j2 ?_
  rintro v2 wr2 m2 ⟨rfl, p2, hf2, ch2⟩ hle2
  unfold Fr at hf2
  have hb2 := (hf2 n (by omega) (fun q => by have := hlt n (by simp [q]); omega)).trans (by (repeat first | with_reducible assumption | exact H4 (by omega) rfl | apply D8 (by omega)))
  refine A2 ?_ (by exact Q1) (by rfl)
  refine E9 (om113 s.wi (k + (ctL ctInt s.fa : Int) + (ctL ctRep s.rs : Int)) (by omega) (by omega) (o3.congr (fun j hj => by
   obtain ⟨z0, z1, z2, z3⟩ := hd3 j hj
   (repeat first | with_reducible rfl | refine D8 (by omega) ?_ | refine (hf1 j (by omega) (by assumption)).trans ?_ | refine (hf2 j (by omega) (by assumption)).trans ?_))) np3 (fun j hj => by
   obtain ⟨z0, z1, z2, z3⟩ := hd3 j hj
   omega)) rfl j2 ?_
  rintro v3 wr3 m3 ⟨rfl, p3, hf3, ch3⟩ hle3
  unfold Fr at hf3
  have hb3 := (hf3 n (by omega) (fun q => by have := hlt n (by simp [q]); omega)).trans (by (repeat first | with_reducible assumption | exact H4 (by omega) rfl | apply D8 (by omega)))
  refine A2 ?_ (by exact Q1) (by rfl)
  refine E9 (om19 s.se (k + (ctL ctInt s.fa : Int) + (ctL ctRep s.rs : Int) + (ctL ctPc s.wi : Int)) (by omega) (by omega) (o4.congr (fun j hj => by
   obtain ⟨z0, z1, z2, z3⟩ := hd4 j hj
   (repeat first | with_reducible rfl | refine D8 (by omega) ?_ | refine (hf1 j (by omega) (by assumption)).trans ?_ | refine (hf2 j (by omega) (by assumption)).trans ?_ | refine (hf3 j (by omega) (by assumption)).trans ?_))) np4 (fun j hj => by
   obtain ⟨z0, z1, z2, z3⟩ := hd4 j hj
   omega)) rfl j2 ?_
  rintro v4 wr4 m4 ⟨rfl, p4, hf4, ch4⟩ hle4
  unfold Fr at hf4
  have hb4 := (hf4 n (by omega) (fun q => by have := hlt n (by simp [q]); omega)).trans (by (repeat first | with_reducible assumption | exact H4 (by omega) rfl | apply D8 (by omega)))
  refine T7 rfl (by repeat first | exact Ch.refl _ | refine Ch.app ?_) ⟨(by show V.int .i64 (k + (ctL ctInt s.fa : Int) + (ctL ctRep s.rs : Int) + (ctL ctPc s.wi : Int) + (ctL ctMsg s.se : Int)) = V.int .i64 (k + (ct0Grp s : Int)); exact congrArg (V.int .i64) (by rw [hce]; omega)), (OwnR.int (.cons _ _ _ _ _ _ _ _ (p1.congr (fun j hj => by
      obtain ⟨z0, z1, z2, z3⟩ := hd1 j hj
      (repeat first | with_reducible rfl | refine D8 (by omega) ?_ | refine (hf2 j (by omega) (by assumption)).trans ?_ | refine (hf3 j (by omega) (by assumption)).trans ?_ | refine (hf4 j (by omega) (by assumption)).trans ?_))) (.cons _ _ _ _ _ _ _ _ (p2.congr (fun j hj => by
      obtain ⟨z0, z1, z2, z3⟩ := hd2 j hj
      (repeat first | with_reducible rfl | refine D8 (by omega) ?_ | refine (hf3 j (by omega) (by assumption)).trans ?_ | refine (hf4 j (by omega) (by assumption)).trans ?_))) (.cons _ _ _ _ _ _ _ _ (p3.congr (fun j hj => by
      obtain ⟨z0, z1, z2, z3⟩ := hd3 j hj
      (repeat first | with_reducible rfl | refine D8 (by omega) ?_ | refine (hf4 j (by omega) (by assumption)).trans ?_))) (.cons _ _ _ _ _ _ _ _ (p4.congr (fun j hj => by
      obtain ⟨z0, z1, z2, z3⟩ := hd4 j hj
      (repeat first | with_reducible rfl | refine D8 (by omega) ?_))) OwnR.nil))))), fun j hj hjS => ?_, (by repeat first | exact Ch.refl _ | refine Ch.app ?_)⟩
  have z1 : j ∉ P1 := fun q => hjS (by simp [q])
  have z2 : j ∉ P2 := fun q => hjS (by simp [q])
  have z3 : j ∉ P3 := fun q => hjS (by simp [q])
  have z4 : j ∉ P4 := fun q => hjS (by simp [q])
  (repeat first | with_reducible rfl | refine D8 (by omega) ?_ | refine (hf1 j (by omega) (by assumption)).trans ?_ | refine (hf2 j (by omega) (by assumption)).trans ?_ | refine (hf3 j (by omega) (by assumption)).trans ?_ | refine (hf4 j (by omega) (by assumption)).trans ?_)
open Go.V
set_option linter.unusedVariables false
set_option linter.unusedSimpArgs false
set_option maxRecDepth 20000
set_option maxHeartbeats 4000000
def slOK (n vw sq : Int) (s : Slt) : Prop := (s.bd ≠ ⟨#[]⟩ → s.bd.size ≤ 20000 ∧ bodyOK rdM n s.bd) ∧ (∀ i, i < s.pr.length → arS n 2 vw sq s.pr i) ∧ (∀ i, i < s.cm.length → arS n 3 vw sq s.cm i)
def Ct.E (c : Ct) : Prop := c.bd = ⟨#[]⟩ ∧ c.ps.length = 0
def ceOK (n vw sq : Int) (c : Ct) : Prop := ¬ c.E → ctOK mk bare rdM dgB n c ∧ c.sq = sq ∧ c.vw ≤ vw
def lgOK (n : Int) (b : ByteArray) : Prop := b.size ≤ 20000 ∧ bodyOK rdM n b
def chOK (n vw : Int) (L : List Msg) (i : Nat) : Prop := okV n (L.getD i Msg0) ∧ vw ≤ (L.getD i Msg0).vw ∧ (L.getD i Msg0).vw = (L.getD 0 Msg0).vw ∧ (0 < i → (L.getD (i - 1) Msg0).fr < (L.getD i Msg0).fr)
def Rep.hd (r : Rep) : Prop := nodes r.nd ∧ (0 ≤ r.id ∧ r.id ≤ r.nd - 1) ∧ (0 ≤ r.vw ∧ r.vw ≤ 20) ∧ r.sl.length = 8 ∧ r.cs.length = 8 ∧ r.lg.length ≤ 8 ∧ (r.ch.length : Int) ≤ r.nd
def Rep.OK (r : Rep) : Prop := r.hd ∧ (∀ i, i < r.sl.length → slOK r.nd r.vw ((i : Int) + 1) (r.sl.getD i Slt0)) ∧ (∀ i, i < r.cs.length → ceOK r.nd r.vw ((i : Int) + 1) (r.cs.getD i Ct0)) ∧ (∀ i, i < r.lg.length → lgOK r.nd (r.lg.getD i ⟨#[]⟩)) ∧ (∀ i, i < r.ch.length → chOK r.nd r.vw r.ch i)
noncomputable instance dcSl (n vw sq : Int) (s : Slt) : Decidable (slOK n vw sq s) := Classical.propDecidable _
noncomputable instance dcCE (c : Ct) : Decidable c.E := Classical.propDecidable _
noncomputable instance dcRep (r : Rep) : Decidable r.OK := Classical.propDecidable _
theorem getMapC {b : Bool} {L : List Ct} {k : Nat} (h : k < L.length) : (L.map (Ct.T b))[k]? = some ((L.getD k Ct0).T b) := B6 (Ct.T b) Ct0 h
theorem s82 (c : Ct) (b : Bool) : Pure En 82 [.agg (c.T b)] [.one (.bool (decide c.E))] := by
 have hl : (c.ps.map Msg.T).length = c.ps.length := List.length_map ..
 refine Pure.of_ev (st := []) Tryz.func82 rfl kb ?_
 refine A2 ?_ (by exact Q0) (by rfl)
 refine br ?_ ?_ <;> intro h1_2
 ·refine A2 ?_ (by exact Q0) (by rfl)
  refine br ?_ ?_ <;> intro h1_7
  ·first | (refine C3 rfl ?_; exact ⟨h1_2, by omega⟩) | (refine B7 rfl ?_; rintro ⟨q1, q2⟩; first | exact h1_2 q1 | omega)
  ·first | (refine C3 rfl ?_; exact ⟨h1_2, by omega⟩) | (refine B7 rfl ?_; rintro ⟨q1, q2⟩; first | exact h1_2 q1 | omega)
 ·first | (refine C3 rfl ?_; exact ⟨h1_2, by omega⟩) | (refine B7 rfl ?_; rintro ⟨q1, q2⟩; first | exact h1_2 q1 | omega)
theorem o81 (R : Rep) (hn : nodes R.nd) (s : Slt) (sq : Int) (hp : s.pr.length ≤ 1048576) (hc : s.cm.length ≤ 1048576) {id : Nat} {h : Heap} {n : Nat} (hid : id < n) (hh : h id = some ⟨[[.int .i64 R.id, .int .i64 R.nd, .int .i64 R.vw, .bool R.ac, .sl false false (R.sl.map Slt.T), .sl false false (R.cs.map (Ct.T false)), .sl false false (R.lg.map tT), .sl false false (R.ch.map Msg.T)]], 8, 54⟩) :
  V.Open En 81 [.ptr id 0 0, .agg [.str s.bd, .sl false false (s.pr.map Msg.T), .sl false false (s.cm.map Msg.T), .bool s.se, .bool s.dn], .int .i64 sq] h n (.bool (decide (slOK R.nd R.vw sq s))) [] (n + 1) := by
 refine V.Open.of_ev (st := []) Tryz.func81 rfl kb ?_
 refine A2 ?_ (by exact Q0) (by exact Q4)
 refine br ?_ ?_ <;> intro h1_2
 ·refine A2 ?_ (by exact Q0) (by exact Q4)
  refine br ?_ ?_ <;> intro h1_7
  ·first
   | (rw [decide_eq_true (show slOK R.nd R.vw sq s from ⟨fun q => by first | exact absurd h1_2 q | exact absurd q h1_2 | exact ⟨by omega, h1_15⟩, h3_11, h3_24⟩)]; exact fiO rfl rfl (leWr (fun j hj => absurd hj List.not_mem_nil) (fun j hj hn => by simp (disch := omega) only [↓app0, ↓appC, ↓updS, ↓updN])) (Nat.le_refl _))
   | (rw [decide_eq_false (show ¬ slOK R.nd R.vw sq s from by rintro ⟨q1, q2, q3⟩; first | exact h3_11 q2 | exact h3_24 q3 | (have := q1 h1_2; first | omega | exact h1_15 this.2))]; exact fiO rfl rfl (leWr (fun j hj => absurd hj List.not_mem_nil) (fun j hj hn => by simp (disch := omega) only [↓app0, ↓appC, ↓updS, ↓updN])) (Nat.le_refl _))
  ·refine A2 ?_ (by exact Q0) (by exact Q4)
   refine A2 ?_ (by exact Q0) (by exact Q4)
   refine B8 (s86 R.nd hn s.bd) rfl j2 ?_ ?_ <;> intro h1_15
   ·refine A2 ?_ (by exact Q0) (by exact Q4)
    refine A2 ?_ (by exact Q0) (by exact Q4)
    refine A2 ?_ (by exact Q0) (by exact Q4)
    refine B8 (s158 R.nd 2 R.vw sq s.pr false hp) rfl j2 ?_ ?_ <;> intro h3_11
    ·refine A2 ?_ (by exact Q0) (by exact Q4)
     refine A2 ?_ (by exact Q0) (by exact Q4)
     refine A2 ?_ (by exact Q0) (by exact Q4)
     refine B8 (s158 R.nd 3 R.vw sq s.cm false hc) rfl j2 ?_ ?_ <;> intro h3_24
     ·first
      | (rw [decide_eq_true (show slOK R.nd R.vw sq s from ⟨fun q => by first | exact absurd h1_2 q | exact absurd q h1_2 | exact ⟨by omega, h1_15⟩, h3_11, h3_24⟩)]; exact fiO rfl rfl (leWr (fun j hj => absurd hj List.not_mem_nil) (fun j hj hn => by simp (disch := omega) only [↓app0, ↓appC, ↓updS, ↓updN])) (Nat.le_refl _))
      | (rw [decide_eq_false (show ¬ slOK R.nd R.vw sq s from by rintro ⟨q1, q2, q3⟩; first | exact h3_11 q2 | exact h3_24 q3 | (have := q1 h1_2; first | omega | exact h1_15 this.2))]; exact fiO rfl rfl (leWr (fun j hj => absurd hj List.not_mem_nil) (fun j hj hn => by simp (disch := omega) only [↓app0, ↓appC, ↓updS, ↓updN])) (Nat.le_refl _))
     ·first
      | (rw [decide_eq_true (show slOK R.nd R.vw sq s from ⟨fun q => by first | exact absurd h1_2 q | exact absurd q h1_2 | exact ⟨by omega, h1_15⟩, h3_11, h3_24⟩)]; exact fiO rfl rfl (leWr (fun j hj => absurd hj List.not_mem_nil) (fun j hj hn => by simp (disch := omega) only [↓app0, ↓appC, ↓updS, ↓updN])) (Nat.le_refl _))
      | (rw [decide_eq_false (show ¬ slOK R.nd R.vw sq s from by rintro ⟨q1, q2, q3⟩; first | exact h3_11 q2 | exact h3_24 q3 | (have := q1 h1_2; first | omega | exact h1_15 this.2))]; exact fiO rfl rfl (leWr (fun j hj => absurd hj List.not_mem_nil) (fun j hj hn => by simp (disch := omega) only [↓app0, ↓appC, ↓updS, ↓updN])) (Nat.le_refl _))
    ·first
     | (rw [decide_eq_true (show slOK R.nd R.vw sq s from ⟨fun q => by first | exact absurd h1_2 q | exact absurd q h1_2 | exact ⟨by omega, h1_15⟩, h3_11, h3_24⟩)]; exact fiO rfl rfl (leWr (fun j hj => absurd hj List.not_mem_nil) (fun j hj hn => by simp (disch := omega) only [↓app0, ↓appC, ↓updS, ↓updN])) (Nat.le_refl _))
     | (rw [decide_eq_false (show ¬ slOK R.nd R.vw sq s from by rintro ⟨q1, q2, q3⟩; first | exact h3_11 q2 | exact h3_24 q3 | (have := q1 h1_2; first | omega | exact h1_15 this.2))]; exact fiO rfl rfl (leWr (fun j hj => absurd hj List.not_mem_nil) (fun j hj hn => by simp (disch := omega) only [↓app0, ↓appC, ↓updS, ↓updN])) (Nat.le_refl _))
   ·first
    | (rw [decide_eq_true (show slOK R.nd R.vw sq s from ⟨fun q => by first | exact absurd h1_2 q | exact absurd q h1_2 | exact ⟨by omega, h1_15⟩, h3_11, h3_24⟩)]; exact fiO rfl rfl (leWr (fun j hj => absurd hj List.not_mem_nil) (fun j hj hn => by simp (disch := omega) only [↓app0, ↓appC, ↓updS, ↓updN])) (Nat.le_refl _))
    | (rw [decide_eq_false (show ¬ slOK R.nd R.vw sq s from by rintro ⟨q1, q2, q3⟩; first | exact h3_11 q2 | exact h3_24 q3 | (have := q1 h1_2; first | omega | exact h1_15 this.2))]; exact fiO rfl rfl (leWr (fun j hj => absurd hj List.not_mem_nil) (fun j hj hn => by simp (disch := omega) only [↓app0, ↓appC, ↓updS, ↓updN])) (Nat.le_refl _))
 ·refine A2 ?_ (by exact Q0) (by exact Q4)
  refine A2 ?_ (by exact Q0) (by exact Q4)
  refine A2 ?_ (by exact Q0) (by exact Q4)
  refine B8 (s158 R.nd 2 R.vw sq s.pr false hp) rfl j2 ?_ ?_ <;> intro h3_11
  ·refine A2 ?_ (by exact Q0) (by exact Q4)
   refine A2 ?_ (by exact Q0) (by exact Q4)
   refine A2 ?_ (by exact Q0) (by exact Q4)
   refine B8 (s158 R.nd 3 R.vw sq s.cm false hc) rfl j2 ?_ ?_ <;> intro h3_24
   ·first
    | (rw [decide_eq_true (show slOK R.nd R.vw sq s from ⟨fun q => by first | exact absurd h1_2 q | exact absurd q h1_2 | exact ⟨by omega, h1_15⟩, h3_11, h3_24⟩)]; exact fiO rfl rfl (leWr (fun j hj => absurd hj List.not_mem_nil) (fun j hj hn => by simp (disch := omega) only [↓app0, ↓appC, ↓updS, ↓updN])) (Nat.le_refl _))
    | (rw [decide_eq_false (show ¬ slOK R.nd R.vw sq s from by rintro ⟨q1, q2, q3⟩; first | exact h3_11 q2 | exact h3_24 q3 | (have := q1 h1_2; first | omega | exact h1_15 this.2))]; exact fiO rfl rfl (leWr (fun j hj => absurd hj List.not_mem_nil) (fun j hj hn => by simp (disch := omega) only [↓app0, ↓appC, ↓updS, ↓updN])) (Nat.le_refl _))
   ·first
    | (rw [decide_eq_true (show slOK R.nd R.vw sq s from ⟨fun q => by first | exact absurd h1_2 q | exact absurd q h1_2 | exact ⟨by omega, h1_15⟩, h3_11, h3_24⟩)]; exact fiO rfl rfl (leWr (fun j hj => absurd hj List.not_mem_nil) (fun j hj hn => by simp (disch := omega) only [↓app0, ↓appC, ↓updS, ↓updN])) (Nat.le_refl _))
    | (rw [decide_eq_false (show ¬ slOK R.nd R.vw sq s from by rintro ⟨q1, q2, q3⟩; first | exact h3_11 q2 | exact h3_24 q3 | (have := q1 h1_2; first | omega | exact h1_15 this.2))]; exact fiO rfl rfl (leWr (fun j hj => absurd hj List.not_mem_nil) (fun j hj hn => by simp (disch := omega) only [↓app0, ↓appC, ↓updS, ↓updN])) (Nat.le_refl _))
  ·first
   | (rw [decide_eq_true (show slOK R.nd R.vw sq s from ⟨fun q => by first | exact absurd h1_2 q | exact absurd q h1_2 | exact ⟨by omega, h1_15⟩, h3_11, h3_24⟩)]; exact fiO rfl rfl (leWr (fun j hj => absurd hj List.not_mem_nil) (fun j hj hn => by simp (disch := omega) only [↓app0, ↓appC, ↓updS, ↓updN])) (Nat.le_refl _))
   | (rw [decide_eq_false (show ¬ slOK R.nd R.vw sq s from by rintro ⟨q1, q2, q3⟩; first | exact h3_11 q2 | exact h3_24 q3 | (have := q1 h1_2; first | omega | exact h1_15 this.2))]; exact fiO rfl rfl (leWr (fun j hj => absurd hj List.not_mem_nil) (fun j hj hn => by simp (disch := omega) only [↓app0, ↓appC, ↓updS, ↓updN])) (Nat.le_refl _))
theorem hce {n : Int} {c : Ct} (h : nodes n ∧ ctOK mk bare rdM dgB n c) : 0 < c.ps.length := by
 have h1 := h.2.1; have := S6 h.1; omega
theorem Rep.sm {R : Rep} (h : TBs 1048576 R.T) : R.sl.length ≤ 1048576 ∧ (∀ i, i < R.sl.length → (R.sl.getD i Slt0).pr.length ≤ 1048576) ∧ (∀ i, i < R.sl.length → (R.sl.getD i Slt0).cm.length ≤ 1048576) ∧ R.cs.length ≤ 1048576 ∧ (∀ i, i < R.cs.length → (R.cs.getD i Ct0).ps.length ≤ 1048576) ∧ R.lg.length ≤ 1048576 ∧ R.ch.length ≤ 1048576 := by
 obtain ⟨h1, h2, h3, h4⟩ := Rep.tb.1 h
 obtain ⟨a1, a2⟩ := (B9 Slt.T Slt0).1 h1
 obtain ⟨b1, b2⟩ := (B9 (Ct.T false) Ct0).1 h2
 obtain ⟨c1, _⟩ := (B9 tT ⟨#[]⟩).1 h3
 obtain ⟨d1, _⟩ := (B9 Msg.T Msg0).1 h4
 exact ⟨a1, fun i hi => ((B9 Msg.T Msg0).1 (Slt.tb.1 (a2 i hi)).2.1).1, fun i hi => ((B9 Msg.T Msg0).1 (Slt.tb.1 (a2 i hi)).2.2).1, b1, fun i hi => ((B9 Msg.T Msg0).1 (Ct.tb.1 (b2 i hi)).2).1, c1, d1⟩
theorem s29 (R : Rep) (hb : TBs 1048576 R.T) : Pure En 29 [.agg R.T] [.one (.bool (decide R.OK))] := by
 obtain ⟨hS0, hS1, hS2, hC0, hC1, hG0, hM0⟩ := Rep.sm hb
 have hl1 : (R.sl.map Slt.T).length = R.sl.length := List.length_map ..
 have hl2 : (R.cs.map (Ct.T false)).length = R.cs.length := List.length_map ..
 have hl3 : (R.lg.map tT).length = R.lg.length := List.length_map ..
 have hl4 : (R.ch.map Msg.T).length = R.ch.length := List.length_map ..
 refine Pure.of_ev (st := []) Tryz.func29 rfl kb ?_
 refine A2 ?_ (by exact Q0) (by exact Q4)
 refine B8 (p22 R.nd) rfl j2 ?_ ?_ <;> intro h1_2
 ·refine A2 ?_ (by exact Q0) (by exact Q4)
  refine A2 ?_ (by exact Q0) (by exact Q4)
  refine E2 ⟨by exact H1, by exact H1⟩ ?_
  refine B8 (Z0 _ _ _) rfl j2 ?_ ?_ <;> intro h1_10
  ·refine A2 ?_ (by exact Q0) (by exact Q4)
   refine B8 (Z0 _ _ _) rfl j2 ?_ ?_ <;> intro h1_16
   ·refine A2 ?_ (by exact Q0) (by exact Q4)
    refine br ?_ ?_ <;> intro h1_23
    ·refine B7 rfl ?_; rintro ⟨⟨q1, q2, q3, q4, q5, q6, q7⟩, _⟩; first | exact h1_2 q1 | exact h1_10 q2 | exact h1_16 q3 | omega
    ·refine A2 ?_ (by exact Q0) (by exact Q4)
     refine br ?_ ?_ <;> intro h1_29
     ·refine B7 rfl ?_; rintro ⟨⟨q1, q2, q3, q4, q5, q6, q7⟩, _⟩; first | exact h1_2 q1 | exact h1_10 q2 | exact h1_16 q3 | omega
     ·refine A2 ?_ (by exact Q0) (by exact Q4)
      refine br ?_ ?_ <;> intro h1_35
      ·refine B7 rfl ?_; rintro ⟨⟨q1, q2, q3, q4, q5, q6, q7⟩, _⟩; first | exact h1_2 q1 | exact h1_10 q2 | exact h1_16 q3 | omega
      ·refine A2 ?_ (by exact Q0) (by exact Q4)
       refine A2 ?_ (by exact Q0) (by exact Q4)
       refine br ?_ ?_ <;> intro h1_43
       ·refine B7 rfl ?_; rintro ⟨⟨q1, q2, q3, q4, q5, q6, q7⟩, _⟩; first | exact h1_2 q1 | exact h1_10 q2 | exact h1_16 q3 | omega
       ·refine A2 ?_ (by exact Q0) (by exact Q4)
        refine A9 (fun (a : Nat × Nat) => [.unk, .ptr 0 0 0, .unk, .unk, .unk, .unk, .unk, .unk, .unk, .unk, .unk, .unk, .unk, .unk, .unk, .unk, .unk, .unk, .unk, .unk, .unk, .unk, .unk, .unk, .unk, .unk, .unk, .unk, .unk, .unk, .unk, .unk, .unk, .unk, .unk, .unk, .unk, .unk, .unk, .unk, .unk, .unk, .unk, .unk, .unk, .unk, .unk, .unk, .unk, .unk, .unk, .unk, .unk, .unk, .unk, .unk, .unk, .unk, .unk, .sl false false (R.sl.map Slt.T), .int .i64 ((R.sl.map Slt.T).length : Int), .int .i64 a.1]) (fun (a : Nat × Nat) => hp [(0, ⟨[[.int .i64 R.id, .int .i64 R.nd, .int .i64 R.vw, .bool R.ac, .sl false false (R.sl.map Slt.T), .sl false false (R.cs.map (Ct.T false)), .sl false false (R.lg.map tT), .sl false false (R.ch.map Msg.T)]], 8, 54⟩)]) (fun (a : Nat × Nat) => a.2) (fun (a : Nat × Nat) => a.1 ≤ R.sl.length ∧ 1 ≤ a.2 ∧ ∀ j, j < a.1 → slOK R.nd R.vw ((j : Int) + 1) (R.sl.getD j Slt0)) (fun (a : Nat × Nat) => R.sl.length - a.1) (0, 1) ?_ ?_ ?_ ?_ ?_
        ·exact ⟨Nat.zero_le _, Nat.le_refl _, F6⟩
        ·(repeat first | exact LE.nil _ | refine LE.unk _ _ ?_ | refine LE.eq _ _ _ rfl ?_)
        ·(repeat first | exact A5 | (refine A6 ?_ ?_; exact H3))
        ·exact Nat.le_refl _
        intro ⟨i, m⟩ hI ih
        obtain ⟨u0, u1, u2⟩ := hI
        dsimp only at u0 u1 u2 ⊢
        refine A3 (st := []) ?_
        refine br ?_ ?_ <;> intro h4_0
        ·(refine C0 (D1 (by first | rfl | assumption | exact Q18) rfl ?_))
         (apply est (u := .agg [.str _, _, _, .bool _, .bool _]) j3; exact Q0; exact Q4; exact j2; rfl; rfl; exact kb; rfl)
         (apply D2 (vs := [.str _, _, _, .bool _, .bool _]) j2; exact Q0; exact Q4; rfl; exact kb; rfl)
         refine E2 ⟨by exact H1, by exact H1⟩ ?_
         refine U5 (o81 R h1_2 (R.sl.getD i Slt0) ((i : Int) + 1) (hS1 i (by omega)) (hS2 i (by omega)) ?_ ?_) rfl j2 ?_ ?_
         ·exact G9
         ·exact G9
         all_goals intro h6_3
         ·refine E2 ⟨by exact H1, by exact H1⟩ ?_
          exact C9 (ih (i + 1, m + 1 + 1) ⟨by dsimp only; omega, by dsimp only; omega, E0 u2 (of_decide_eq_true h6_3)⟩ (by dsimp only; omega)) (by (repeat first | exact LE.nil _ | refine LE.unk _ _ ?_ | refine LE.eq _ _ _ rfl ?_)) (by (repeat first | exact A5 | (refine A6 ?_ ?_; exact H3))) (Nat.le_refl _)
         ·refine B7 rfl ?_; rintro ⟨_, q2, _⟩; exact of_decide_eq_false h6_3 (q2 i (by omega))
        ·refine A2 ?_ (by exact Q0) (by exact Q4)
         refine A9 (fun (a : Nat × Nat) => [.unk, .ptr 0 0 0, .unk, .unk, .unk, .unk, .unk, .unk, .unk, .unk, .unk, .unk, .unk, .unk, .unk, .unk, .unk, .unk, .unk, .unk, .unk, .unk, .unk, .unk, .unk, .unk, .unk, .unk, .unk, .unk, .unk, .unk, .unk, .unk, .unk, .unk, .unk, .unk, .unk, .unk, .unk, .unk, .unk, .unk, .unk, .unk, .unk, .unk, .unk, .unk, .unk, .unk, .unk, .unk, .unk, .unk, .unk, .unk, .unk, .unk, .unk, .unk, .unk, .unk, .unk, .unk, .unk, .unk, .unk, .unk, .unk, .unk, .unk, .sl false false (R.cs.map (Ct.T false)), .int .i64 ((R.cs.map (Ct.T false)).length : Int), .int .i64 a.1]) (fun (a : Nat × Nat) => hp [(0, ⟨[[.int .i64 R.id, .int .i64 R.nd, .int .i64 R.vw, .bool R.ac, .sl false false (R.sl.map Slt.T), .sl false false (R.cs.map (Ct.T false)), .sl false false (R.lg.map tT), .sl false false (R.ch.map Msg.T)]], 8, 54⟩)]) (fun (a : Nat × Nat) => a.2) (fun (a : Nat × Nat) => a.1 ≤ R.cs.length ∧ 1 ≤ a.2 ∧ ∀ j, j < a.1 → ceOK R.nd R.vw ((j : Int) + 1) (R.cs.getD j Ct0)) (fun (a : Nat × Nat) => R.cs.length - a.1) (0, m) ?_ ?_ ?_ ?_ ?_
         ·exact ⟨Nat.zero_le _, u1, F6⟩
         ·(repeat first | exact LE.nil _ | refine LE.unk _ _ ?_ | refine LE.eq _ _ _ rfl ?_)
         ·(repeat first | exact A5 | (refine A6 ?_ ?_; exact H3))
         ·exact Nat.le_refl _
         intro ⟨i2, m2⟩ hI ih
         obtain ⟨v0, v1, v2⟩ := hI
         dsimp only at v0 v1 v2 ⊢
         refine A3 (st := []) ?_
         refine br ?_ ?_ <;> intro h10_0
         ·(refine C0 (D1 (by first | rfl | assumption | exact Q18) rfl ?_))
          (apply est (u := .agg [.str _, _]) j3; exact Q0; exact Q4; exact j2; rfl; rfl; exact kb; rfl)
          (apply D2 (vs := [.str _, _]) j2; exact Q0; exact Q4; rfl; exact kb; rfl)
          refine B8 (s82 (R.cs.getD i2 Ct0) false) rfl j2 ?_ ?_ <;> intro h12_1
          ·refine E2 ⟨by exact H1, by exact H1⟩ ?_
           exact C9 (ih (i2 + 1, m2 + 1) ⟨by dsimp only; omega, by dsimp only; omega, E0 v2 (fun q => by first | exact absurd h12_1 q | exact ⟨h12_7.2, by omega, by omega⟩)⟩ (by dsimp only; omega)) (by (repeat first | exact LE.nil _ | refine LE.unk _ _ ?_ | refine LE.eq _ _ _ rfl ?_)) (by (repeat first | exact A5 | (refine A6 ?_ ?_; exact H3))) (Nat.le_refl _)
          ·refine A2 ?_ (by exact Q0) (by exact Q4)
           (apply D2 (vs := [.str _, _]) j2; exact Q0; exact Q4; rfl; exact kb; rfl)
           refine B8 (s83 R.nd (R.cs.getD i2 Ct0) false) rfl j2 ?_ ?_ <;> intro h12_7
           ·(apply D2 (vs := [.str _, _]) j2; exact Q0; exact Q4; rfl; exact kb; rfl)
            refine C5 (s84 (R.cs.getD i2 Ct0) false (hce h12_7)) rfl rfl rfl ?_
            refine E2 ⟨by exact H1, by exact H1⟩ ?_
            refine br ?_ ?_ <;> intro h12_14
            ·refine B7 rfl ?_; rintro ⟨_, _, q3, _⟩; obtain ⟨e1, e2, e3⟩ := q3 i2 (by omega) h12_1; first | exact h12_7 ⟨h1_2, e1⟩ | omega
            ·(apply D2 (vs := [.str _, _]) j2; exact Q0; exact Q4; rfl; exact kb; rfl)
             refine C5 (s85 (R.cs.getD i2 Ct0) false (hce h12_7)) rfl rfl rfl ?_
             refine A2 ?_ (by exact Q0) (by exact Q4)
             refine br ?_ ?_ <;> intro h12_21
             ·refine B7 rfl ?_; rintro ⟨_, _, q3, _⟩; obtain ⟨e1, e2, e3⟩ := q3 i2 (by omega) h12_1; first | exact h12_7 ⟨h1_2, e1⟩ | omega
             ·refine E2 ⟨by exact H1, by exact H1⟩ ?_
              exact C9 (ih (i2 + 1, m2 + 1) ⟨by dsimp only; omega, by dsimp only; omega, E0 v2 (fun q => by first | exact absurd h12_1 q | exact ⟨h12_7.2, by omega, by omega⟩)⟩ (by dsimp only; omega)) (by (repeat first | exact LE.nil _ | refine LE.unk _ _ ?_ | refine LE.eq _ _ _ rfl ?_)) (by (repeat first | exact A5 | (refine A6 ?_ ?_; exact H3))) (Nat.le_refl _)
           ·refine B7 rfl ?_; rintro ⟨_, _, q3, _⟩; obtain ⟨e1, e2, e3⟩ := q3 i2 (by omega) h12_1; first | exact h12_7 ⟨h1_2, e1⟩ | omega
         ·refine A2 ?_ (by exact Q0) (by exact Q4)
          refine A9 (fun (a : Nat) => [.unk, .ptr 0 0 0, .unk, .unk, .unk, .unk, .unk, .unk, .unk, .unk, .unk, .unk, .unk, .unk, .unk, .unk, .unk, .unk, .unk, .unk, .unk, .unk, .unk, .unk, .unk, .unk, .unk, .unk, .unk, .unk, .unk, .unk, .unk, .unk, .unk, .unk, .unk, .unk, .unk, .unk, .unk, .unk, .unk, .unk, .unk, .unk, .unk, .unk, .unk, .unk, .unk, .unk, .unk, .unk, .unk, .unk, .unk, .unk, .unk, .unk, .unk, .unk, .unk, .unk, .unk, .unk, .unk, .unk, .unk, .unk, .unk, .unk, .unk, .unk, .unk, .unk, .unk, .unk, .unk, .unk, .unk, .unk, .unk, .unk, .unk, .unk, .unk, .unk, .unk, .unk, .unk, .unk, .unk, .unk, .unk, .unk, .unk, .unk, .unk, .unk, .unk, .unk, .unk, .unk, .unk, .unk, .sl false false (R.lg.map tT), .int .i64 ((R.lg.map tT).length : Int), .int .i64 a]) (fun (a : Nat) => hp [(0, ⟨[[.int .i64 R.id, .int .i64 R.nd, .int .i64 R.vw, .bool R.ac, .sl false false (R.sl.map Slt.T), .sl false false (R.cs.map (Ct.T false)), .sl false false (R.lg.map tT), .sl false false (R.ch.map Msg.T)]], 8, 54⟩)]) (fun (a : Nat) => m2) (fun (a : Nat) => a ≤ R.lg.length ∧ ∀ j, j < a → lgOK R.nd (R.lg.getD j ⟨#[]⟩)) (fun (a : Nat) => R.lg.length - a) 0 ?_ ?_ ?_ ?_ ?_
          ·exact ⟨Nat.zero_le _, F6⟩
          ·(repeat first | exact LE.nil _ | refine LE.unk _ _ ?_ | refine LE.eq _ _ _ rfl ?_)
          ·(repeat first | exact A5 | (refine A6 ?_ ?_; exact H3))
          ·exact Nat.le_refl _
          intro i3 hI ih
          obtain ⟨w0, w2⟩ := hI
          have hzz : (R.lg.getD ((i3 : Int)).toNat (⟨#[]⟩ : ByteArray)).size = (R.lg.getD i3 (⟨#[]⟩ : ByteArray)).size := rfl
          refine A3 (st := []) ?_
          refine br ?_ ?_ <;> intro h16_0
          ·(refine C0 (D1 (by first | rfl | assumption | exact Q18) rfl ?_))
           refine br ?_ ?_ <;> intro h18_2
           ·refine B7 rfl ?_; rintro ⟨_, _, _, q4, _⟩; obtain ⟨e1, e2⟩ := q4 i3 (by omega); first | omega | exact h18_7 e2
           ·refine A2 ?_ (by exact Q0) (by exact Q4)
            refine B8 (s86 R.nd h1_2 (R.lg.getD i3 ⟨#[]⟩)) rfl j2 ?_ ?_ <;> intro h18_7
            ·refine E2 ⟨by exact H1, by exact H1⟩ ?_
             exact C9 (ih (i3 + 1) ⟨by omega, E0 w2 ⟨by omega, h18_7⟩⟩ (by omega)) (by (repeat first | exact LE.nil _ | refine LE.unk _ _ ?_ | refine LE.eq _ _ _ rfl ?_)) (by (repeat first | exact A5 | (refine A6 ?_ ?_; exact H3))) (Nat.le_refl _)
            ·refine B7 rfl ?_; rintro ⟨_, _, _, q4, _⟩; obtain ⟨e1, e2⟩ := q4 i3 (by omega); first | omega | exact h18_7 e2
          ·refine A2 ?_ (by exact Q0) (by exact Q4)
           refine A9 (fun (a : Nat × Nat) => [.unk, .ptr 0 0 0, .unk, .unk, .unk, .unk, .unk, .unk, .unk, .unk, .unk, .unk, .unk, .unk, .unk, .unk, .unk, .unk, .unk, .unk, .unk, .unk, .unk, .unk, .unk, .unk, .unk, .unk, .unk, .unk, .unk, .unk, .unk, .unk, .unk, .unk, .unk, .unk, .unk, .unk, .unk, .unk, .unk, .unk, .unk, .unk, .unk, .unk, .unk, .unk, .unk, .unk, .unk, .unk, .unk, .unk, .unk, .unk, .unk, .unk, .unk, .unk, .unk, .unk, .unk, .unk, .unk, .unk, .unk, .unk, .unk, .unk, .unk, .unk, .unk, .unk, .unk, .unk, .unk, .unk, .unk, .unk, .unk, .unk, .unk, .unk, .unk, .unk, .unk, .unk, .unk, .unk, .unk, .unk, .unk, .unk, .unk, .unk, .unk, .unk, .unk, .unk, .unk, .unk, .unk, .unk, .unk, .unk, .unk, .unk, .unk, .unk, .unk, .unk, .unk, .unk, .unk, .unk, .unk, .unk, .unk, .unk, .unk, .unk, .sl false false (R.ch.map Msg.T), .int .i64 ((R.ch.map Msg.T).length : Int), .int .i64 a.1]) (fun (a : Nat × Nat) => hp [(0, ⟨[[.int .i64 R.id, .int .i64 R.nd, .int .i64 R.vw, .bool R.ac, .sl false false (R.sl.map Slt.T), .sl false false (R.cs.map (Ct.T false)), .sl false false (R.lg.map tT), .sl false false (R.ch.map Msg.T)]], 8, 54⟩)]) (fun (a : Nat × Nat) => a.2) (fun (a : Nat × Nat) => a.1 ≤ R.ch.length ∧ 1 ≤ a.2 ∧ ∀ j, j < a.1 → chOK R.nd R.vw R.ch j) (fun (a : Nat × Nat) => R.ch.length - a.1) (0, m2) ?_ ?_ ?_ ?_ ?_
           ·exact ⟨Nat.zero_le _, v1, F6⟩
           ·(repeat first | exact LE.nil _ | refine LE.unk _ _ ?_ | refine LE.eq _ _ _ rfl ?_)
           ·(repeat first | exact A5 | (refine A6 ?_ ?_; exact H3))
           ·exact Nat.le_refl _
           intro ⟨i4, m4⟩ hI ih
           obtain ⟨x0, x1, x2⟩ := hI
           dsimp only at x0 x1 x2 ⊢
           refine A3 (st := []) ?_
           refine br ?_ ?_ <;> intro h22_0
           ·(refine C0 (D1 (by first | rfl | assumption | exact Q18) rfl ?_))
            (apply est (u := .agg [.int _ _, .int _ _, .int _ _, .int _ _, .str _, .str _, .str _]) j3; exact Q0; exact Q4; exact j2; rfl; rfl; exact kb; rfl)
            refine A2 ?_ (by exact Q0) (by exact Q4)
            (apply D2 (vs := [.int _ _, .int _ _, .int _ _, .int _ _, .str _, .str _, .str _]) j2; exact Q0; exact Q4; rfl; exact kb; rfl)
            refine C5 (s70 R.nd (R.ch.getD i4 Msg0)) rfl rfl rfl ?_
            refine brB ?_ ?_ <;> intro h24_6
            ·refine A2 ?_ (by exact Q0) (by exact Q4)
             refine A2 ?_ (by exact Q0) (by exact Q4)
             refine br ?_ ?_ <;> intro h25_7
             ·refine B7 rfl ?_; rintro ⟨_, _, _, _, q5⟩; obtain ⟨e1, e2, e3, e4⟩ := q5 i4 (by omega); first | exact of_decide_eq_false h24_6 e1 | omega | (have := e4 (by omega); omega)
             ·refine A2 ?_ (by exact Q0) (by exact Q4)
              refine A2 ?_ (by exact Q0) (by exact Q4)
              (refine C0 (D1 (by first | rfl | assumption | exact Q18) rfl ?_))
              refine br ?_ ?_ <;> intro h25_17
              ·refine B7 rfl ?_; rintro ⟨_, _, _, _, q5⟩; obtain ⟨e1, e2, e3, e4⟩ := q5 i4 (by omega); first | exact of_decide_eq_false h24_6 e1 | omega | (have := e4 (by omega); omega)
              ·refine br ?_ ?_ <;> intro h25_21
               ·refine A2 ?_ (by exact Q0) (by exact Q4)
                refine E2 ⟨by exact H1, by exact H1⟩ ?_
                (refine C0 (D1 (by first | rfl | assumption | exact Q18) rfl ?_))
                refine A2 ?_ (by exact Q0) (by exact Q4)
                refine br ?_ ?_ <;> intro h25_32
                ·refine B7 rfl ?_; rintro ⟨_, _, _, _, q5⟩; obtain ⟨e1, e2, e3, e4⟩ := q5 i4 (by omega); first | exact of_decide_eq_false h24_6 e1 | omega | (have := e4 (by omega); omega)
                ·refine E2 ⟨by exact H1, by exact H1⟩ ?_
                 exact C9 (ih (i4 + 1, m4 + 1) ⟨by dsimp only; omega, by dsimp only; omega, E0 x2 ⟨of_decide_eq_true h24_6, by omega, by omega, fun _ => by omega⟩⟩ (by dsimp only; omega)) (by (repeat first | exact LE.nil _ | refine LE.unk _ _ ?_ | refine LE.eq _ _ _ rfl ?_)) (by (repeat first | exact A5 | (refine A6 ?_ ?_; exact H3))) (Nat.le_refl _)
               ·refine E2 ⟨by exact H1, by exact H1⟩ ?_
                exact C9 (ih (i4 + 1, m4 + 1) ⟨by dsimp only; omega, by dsimp only; omega, E0 x2 ⟨of_decide_eq_true h24_6, by omega, by omega, fun _ => by omega⟩⟩ (by dsimp only; omega)) (by (repeat first | exact LE.nil _ | refine LE.unk _ _ ?_ | refine LE.eq _ _ _ rfl ?_)) (by (repeat first | exact A5 | (refine A6 ?_ ?_; exact H3))) (Nat.le_refl _)
            ·refine B7 rfl ?_; rintro ⟨_, _, _, _, q5⟩; obtain ⟨e1, e2, e3, e4⟩ := q5 i4 (by omega); first | exact of_decide_eq_false h24_6 e1 | omega | (have := e4 (by omega); omega)
           ·refine C3 rfl ?_; exact ⟨⟨h1_2, h1_10, h1_16, by omega, by omega, by omega, by omega⟩, fun j hj => u2 j (by omega), fun j hj => v2 j (by omega), fun j hj => w2 j (by omega), fun j hj => x2 j (by omega)⟩
   ·refine B7 rfl ?_; rintro ⟨⟨q1, q2, q3, q4, q5, q6, q7⟩, _⟩; first | exact h1_2 q1 | exact h1_10 q2 | exact h1_16 q3 | omega
  ·refine B7 rfl ?_; rintro ⟨⟨q1, q2, q3, q4, q5, q6, q7⟩, _⟩; first | exact h1_2 q1 | exact h1_10 q2 | exact h1_16 q3 | omega
 ·refine B7 rfl ?_; rintro ⟨⟨q1, q2, q3, q4, q5, q6, q7⟩, _⟩; first | exact h1_2 q1 | exact h1_10 q2 | exact h1_16 q3 | omega
open Go.V
set_option linter.unusedVariables false
set_option linter.unusedSimpArgs false
set_option maxRecDepth 20000
set_option maxHeartbeats 4000000
def fyOK (n : Int) (F : List Int) : Prop := (F.length : Int) ≤ (n - 1) / 3 ∧ ∀ i, i < F.length → (0 ≤ F.getD i 0 ∧ F.getD i 0 ≤ n - 1) ∧ (0 < i → F.getD (i - 1) 0 < F.getD i 0)
def rsOK (n : Int) (L : List Rep) (i : Nat) : Prop := (L.getD i Rep0).id = (i : Int) ∧ (L.getD i Rep0).nd = n ∧ (L.getD i Rep0).OK
def pcOK (n : Int) (p : Pc) : Prop := (0 ≤ p.to ∧ p.to ≤ n - 1) ∧ sgd mk bare n p.ms
def sgM (n : Int) (m : Msg) : Prop := sgd mk bare n m
def Grp.hd (g : Grp) : Prop := nodes g.nd ∧ fyOK g.nd g.fa ∧ (g.rs.length : Int) = g.nd ∧ g.wi.length ≤ 400 ∧ g.se.length ≤ 4096
def Grp.OK (g : Grp) : Prop := g.hd ∧ (∀ i, i < g.rs.length → rsOK g.nd g.rs i) ∧ (∀ i, i < g.wi.length → pcOK g.nd (g.wi.getD i Pc0)) ∧ (∀ i, i < g.se.length → sgM g.nd (g.se.getD i Msg0))
def riOK (lo hi : Int) (F : List Int) (i : Nat) : Prop := (lo ≤ F.getD i 0 ∧ F.getD i 0 ≤ hi) ∧ (0 < i → F.getD (i - 1) 0 < F.getD i 0)
noncomputable instance dcRi (lo hi : Int) (F : List Int) : Decidable (∀ i, i < F.length → riOK lo hi F i) := Classical.propDecidable _
noncomputable instance dcFy (n : Int) (F : List Int) : Decidable (nodes n ∧ fyOK n F) := Classical.propDecidable _
noncomputable instance dcFz (n : Int) (F : List Int) : Decidable (fyOK n F) := Classical.propDecidable _
noncomputable instance dcGrp (g : Grp) : Decidable g.OK := Classical.propDecidable _
def anyP {α : Type} (P : α → Prop) (L : List α) : Prop := ∃ x ∈ L, P x
noncomputable instance dcAny {α : Type} (P : α → Prop) (L : List α) : Decidable (anyP P L) := Classical.propDecidable _
def nS (n : Int) (m : Msg) : Prop := ¬ (nodes n ∧ sgd mk bare n m)
noncomputable instance dcNs (n : Int) (m : Msg) : Decidable (nS n m) := Classical.propDecidable _
theorem s139 (n : Int) : Pure En 139 [.one (.int .i64 n)] [.one (.int .i64 (if nodes n then (n - 1) / 3 else 0)), .one (.int .i64 (if nodes n then 0 else 4))] := by
 by_cases hn : nodes n
 ·rw [if_pos hn, if_pos hn]
  rcases hn with rfl | rfl | rfl
  all_goals
   refine Pure.of_ev (st := []) Tryz.func139 rfl kb ?_
   refine br ?_ ?_ <;> intro h1_1
   ·refine br ?_ ?_ <;> intro h1_4
    ·refine br ?_ ?_ <;> intro h1_8
     ·first | exact C2 rfl rfl | (exfalso; omega)
     ·refine E2 ⟨by (first | omega | decide | (rcases hn with e | e | e <;> omega)), by (first | omega | decide | (rcases hn with e | e | e <;> omega))⟩ ?_
      refine sd (by (first | omega | decide | (rcases hn with e | e | e <;> omega))) ?_
      first | exact C2 rfl rfl | (exfalso; omega)
    ·refine E2 ⟨by (first | omega | decide | (rcases hn with e | e | e <;> omega)), by (first | omega | decide | (rcases hn with e | e | e <;> omega))⟩ ?_
     refine sd (by (first | omega | decide | (rcases hn with e | e | e <;> omega))) ?_
     first | exact C2 rfl rfl | (exfalso; omega)
   ·refine E2 ⟨by (first | omega | decide | (rcases hn with e | e | e <;> omega)), by (first | omega | decide | (rcases hn with e | e | e <;> omega))⟩ ?_
    refine sd (by (first | omega | decide | (rcases hn with e | e | e <;> omega))) ?_
    first | exact C2 rfl rfl | (exfalso; omega)
 ·rw [if_neg hn, if_neg hn]
  unfold nodes at hn
  refine Pure.of_ev (st := []) Tryz.func139 rfl kb ?_
  refine br ?_ ?_ <;> intro h1_1
  ·refine br ?_ ?_ <;> intro h1_4
   ·refine br ?_ ?_ <;> intro h1_8
    ·first | exact C2 rfl rfl | (exfalso; omega)
    ·refine C1 ?_
     refine C0 ?_
     first | exact C2 rfl rfl | (exfalso; omega)
   ·refine C1 ?_
    refine C0 ?_
    first | exact C2 rfl rfl | (exfalso; omega)
  ·refine C1 ?_
   refine C0 ?_
   first | exact C2 rfl rfl | (exfalso; omega)
theorem s169 (lo hi : Int) (F : List Int) (b : Bool) (hF : F.length ≤ 1048576) : Pure En 169 [.one (.sl b (F.map iT)), .one (.int .i64 lo), .one (.int .i64 hi)] [.one (.bool (decide (∀ i, i < F.length → riOK lo hi F i)))] := by
 have hl : (F.map iT).length = F.length := List.length_map ..
 refine Pure.of_ev (st := []) Tryz.func169 rfl kb ?_
 refine D4 (fun (i : Nat) => [.sl false b (F.map iT), .int .i64 lo, .int .i64 hi, .unk, .unk, .unk, .unk, .unk, .unk, .sl false b (F.map iT), .int .i64 ((F.map iT).length : Int), .int .i64 i]) (fun (i : Nat) => i ≤ F.length ∧ ∀ j, j < i → riOK lo hi F j) (fun (i : Nat) => F.length - i) 0 ?_ ?_ ?_
 ·exact ⟨Nat.zero_le _, F6⟩
 ·(repeat first | exact LE.nil _ | refine LE.unk _ _ ?_ | refine LE.eq _ _ _ rfl ?_)
 intro i hI ih
 obtain ⟨u0, u2⟩ := hI
 refine A3 (st := []) ?_
 refine br ?_ ?_ <;> intro h2_0
 ·(refine C0 (D1 (by first | rfl | assumption | exact Q19) rfl ?_))
  refine B8 (Z0 _ _ _) rfl j2 ?_ ?_ <;> intro h4_3
  ·refine br ?_ ?_ <;> intro h4_7
   ·refine C1 ?_
    (refine C0 (D1 (by first | rfl | assumption | exact Q19) rfl ?_))
    refine br ?_ ?_ <;> intro h4_15
    ·refine B7 rfl ?_; intro q; obtain ⟨e1, e2⟩ := q i (by omega); first | exact h4_3 e1 | (have := e2 (by omega); omega)
    ·refine C1 ?_
     exact T5 (ih (i + 1) ⟨by omega, E0 u2 ⟨h4_3, fun _ => by omega⟩⟩ (by omega)) (by (repeat first | exact LE.nil _ | refine LE.unk _ _ ?_ | refine LE.eq _ _ _ rfl ?_))
   ·refine C1 ?_
    exact T5 (ih (i + 1) ⟨by omega, E0 u2 ⟨h4_3, fun _ => by omega⟩⟩ (by omega)) (by (repeat first | exact LE.nil _ | refine LE.unk _ _ ?_ | refine LE.eq _ _ _ rfl ?_))
  ·refine B7 rfl ?_; intro q; obtain ⟨e1, e2⟩ := q i (by omega); first | exact h4_3 e1 | (have := e2 (by omega); omega)
 ·refine C3 rfl ?_; exact fun j hj => u2 j (by omega)
theorem s97 (n : Int) (F : List Int) (b : Bool) (hF : F.length ≤ 1048576) : Pure En 97 [.one (.int .i64 n), .one (.sl b (F.map iT))] [.one (.bool (decide (nodes n ∧ fyOK n F)))] := by
 have hl : (F.map iT).length = F.length := List.length_map ..
 by_cases hn2 : nodes n
 ·have s139 : ∀ _ : Int, Pure En 139 [.one (.int .i64 n)] [.one (.int .i64 ((n - 1) / 3)), .one (.int .i64 0)] := fun _ => by have := s139 n; rwa [if_pos hn2, if_pos hn2] at this
  refine Pure.of_ev (st := []) Tryz.func97 rfl kb ?_
  refine C5 (s139 n) rfl rfl rfl ?_
  refine br ?_ (fun h => absurd (rfl) h)
  intro h2_1
  refine br ?_ ?_ <;> intro h2_6
  ·refine E2 ⟨by (first | omega | assumption | (rcases hn2 with e | e | e <;> omega)), by (first | omega | assumption | (rcases hn2 with e | e | e <;> omega))⟩ ?_
   refine B8 (s169 0 (n - 1) F b hF) rfl j2 ?_ ?_ <;> intro h2_12
   ·first | (refine C3 rfl ?_; exact ⟨hn2, by omega, h2_12⟩) | (refine B7 rfl ?_; rintro ⟨q1, q2, q3⟩; first | exact h2_12 q3 | omega)
   ·first | (refine C3 rfl ?_; exact ⟨hn2, by omega, h2_12⟩) | (refine B7 rfl ?_; rintro ⟨q1, q2, q3⟩; first | exact h2_12 q3 | omega)
  ·first | (refine C3 rfl ?_; exact ⟨hn2, by omega, h2_12⟩) | (refine B7 rfl ?_; rintro ⟨q1, q2, q3⟩; first | exact h2_12 q3 | omega)
 ·have s139 : ∀ _ : Int, Pure En 139 [.one (.int .i64 n)] [.one (.int .i64 0), .one (.int .i64 4)] := fun _ => by have := s139 n; rwa [if_neg hn2, if_neg hn2] at this
  refine Pure.of_ev (st := []) Tryz.func97 rfl kb ?_
  refine C5 (s139 n) rfl rfl rfl ?_
  refine br (fun h => absurd h ((by decide))) ?_
  intro h2_1
  refine B7 rfl ?_; exact fun q => hn2 q.1
theorem o99 (G : Grp) (m : Msg) {id : Nat} {h : Heap} {n : Nat} (hid : id < n) (hh : h id = some ⟨[[.int .i64 G.nd, .sl false false (G.fa.map iT), .sl false false (G.rs.map Rep.T), .sl false false (G.wi.map Pc.T), .sl false false (G.se.map Msg.T)]], 5, 67⟩) : V.Open En 99 [.agg m.V, .ptr id 0 0] h n (.bool (decide (nS G.nd m))) [] (n + 1) := by
 refine V.Open.of_ev (st := []) Tryz.func99 rfl kb ?_
 refine A2 ?_ (by exact Q0) (by exact Q4)
 (apply D2 (vs := [.int _ _, .int _ _, .int _ _, .int _ _, .str _, .str _, .str _]) j2; exact Q0; exact Q4; rfl; exact kb; rfl)
 refine B8 (s55 G.nd m) rfl j2 ?_ ?_ <;> intro h1_3
 ·first
  | (rw [decide_eq_false (show ¬ nS G.nd m from fun q => q h1_3)]; exact fiO rfl rfl (leWr (fun j hj => absurd hj List.not_mem_nil) (fun j hj hn => by simp (disch := omega) only [↓app0, ↓appC, ↓updS, ↓updN])) (Nat.le_refl _))
  | (rw [decide_eq_true (show nS G.nd m from h1_3)]; exact fiO rfl rfl (leWr (fun j hj => absurd hj List.not_mem_nil) (fun j hj hn => by simp (disch := omega) only [↓app0, ↓appC, ↓updS, ↓updN])) (Nat.le_refl _))
 ·first
  | (rw [decide_eq_false (show ¬ nS G.nd m from fun q => q h1_3)]; exact fiO rfl rfl (leWr (fun j hj => absurd hj List.not_mem_nil) (fun j hj hn => by simp (disch := omega) only [↓app0, ↓appC, ↓updS, ↓updN])) (Nat.le_refl _))
  | (rw [decide_eq_true (show nS G.nd m from h1_3)]; exact fiO rfl rfl (leWr (fun j hj => absurd hj List.not_mem_nil) (fun j hj hn => by simp (disch := omega) only [↓app0, ↓appC, ↓updS, ↓updN])) (Nat.le_refl _))
theorem o170g (fr b : Bool) (L : List Msg) (G : Grp) {id : Nat} {h : Heap} {n : Nat} (hid : id < n) (hh : h id = some ⟨[[.int .i64 G.nd, .sl false false (G.fa.map iT), .sl false false (G.rs.map Rep.T), .sl false false (G.wi.map Pc.T), .sl false false (G.se.map Msg.T)]], 5, 67⟩) (hL : L.length ≤ 1048576) : V.Open En 170 [.sl fr b (L.map Msg.T), .clo 99 [.ptr id 0 0]] h n (.int .i64 (pix (nS G.nd) L 0)) [] (n + 1 * L.length) := by
 have hl : (L.map Msg.T).length = L.length := List.length_map ..
 refine V.Open.of_ev (st := []) Tryz.func170 rfl kb ?_
 refine A9 (fun (a : Nat × Nat) => [.sl fr b (L.map Msg.T), .clo 99 [.ptr id 0 0], .unk, .unk, .unk, .unk, .unk, .int .i64 (L.map Msg.T).length, .int .i64 a.1]) (fun (a : Nat × Nat) => h) (fun (a : Nat × Nat) => a.2) (fun (a : Nat × Nat) => a.1 ≤ L.length ∧ pix (nS G.nd) (L.drop a.1) a.1 = pix (nS G.nd) L 0 ∧ n + 1 * a.1 = a.2) (fun (a : Nat × Nat) => L.length - a.1) (0, n) ?_ ?_ ?_ ?_ ?_
 ·exact ⟨Nat.zero_le _, rfl, by omega⟩
 ·(repeat first | exact LE.nil _ | refine LE.unk _ _ ?_ | refine LE.eq _ _ _ rfl ?_)
 ·exact LessH.refl _
 ·exact Nat.le_refl _
 intro ⟨i, m⟩ hI ih
 obtain ⟨q0, q1, q2⟩ := hI
 dsimp only at q0 q1 q2 ⊢
 refine A3 (st := []) ?_
 refine br ?_ ?_ <;> intro h2_0
 ·(refine C0 (D1 (by first | rfl | assumption | (exact A7 Msg.T Msg0 (k := i) (by omega))) rfl ?_))
  refine U5 (o99 G (L.getD i Msg0) (n := m) (by omega) hh) rfl j2 ?_ ?_
  all_goals intro h4_5
  ·rw [← q1, pix_y (d := Msg0) (L := L) (i := i) (by omega) (of_decide_eq_true h4_5)]; exact fiO rfl rfl (fun _ _ _ e => e) (by omega)
  ·refine C1 ?_
   have e1 := (pix_n (P := nS G.nd) (d := Msg0) (L := L) (i := i) (by omega) (of_decide_eq_false h4_5)).symm.trans q1
   exact C9 (ih (i + 1, m + 1) ⟨by dsimp only; omega, e1, by dsimp only; omega⟩ (by dsimp only; omega)) (by (repeat first | exact LE.nil _ | refine LE.unk _ _ ?_ | refine LE.eq _ _ _ rfl ?_)) (LessH.refl _) (Nat.le_refl _)
 ·rw [← q1, pix_end (L := L) (i := i) (by omega)]; exact fiO rfl rfl (fun _ _ _ e => e) (by omega)
theorem o98g (fr b : Bool) (L : List Msg) (G : Grp) {id : Nat} {h : Heap} {n : Nat} (hid : id < n) (hh : h id = some ⟨[[.int .i64 G.nd, .sl false false (G.fa.map iT), .sl false false (G.rs.map Rep.T), .sl false false (G.wi.map Pc.T), .sl false false (G.se.map Msg.T)]], 5, 67⟩) (hL : L.length ≤ 1048576) : V.Open En 98 [.sl fr b (L.map Msg.T), .clo 99 [.ptr id 0 0]] h n (.bool (decide (anyP (nS G.nd) L))) [] (n + 1 * L.length) := by
 refine V.Open.of_ev (st := []) Tryz.func98 rfl kb ?_
 refine O3 (o170g fr b L G hid hh hL) rfl rfl rfl ?_
 refine br ?_ ?_ <;> intro h1_3
 ·first
  | (rw [decide_eq_true (show anyP (nS G.nd) L from (L5 (P := nS G.nd) L 0).1 (by omega))]; exact fiO rfl rfl (fun _ _ _ e => e) (Nat.le_refl _))
  | (rw [decide_eq_false (show ¬ anyP (nS G.nd) L from fun q => by have := (L5 (P := nS G.nd) L 0).2 q; omega)]; exact fiO rfl rfl (fun _ _ _ e => e) (Nat.le_refl _))
 ·first
  | (rw [decide_eq_true (show anyP (nS G.nd) L from (L5 (P := nS G.nd) L 0).1 (by omega))]; exact fiO rfl rfl (fun _ _ _ e => e) (Nat.le_refl _))
  | (rw [decide_eq_false (show ¬ anyP (nS G.nd) L from fun q => by have := (L5 (P := nS G.nd) L 0).2 q; omega)]; exact fiO rfl rfl (fun _ _ _ e => e) (Nat.le_refl _))
theorem Grp.sm {G : Grp} (h : TBs 1048576 G.T) : G.fa.length ≤ 1048576 ∧ G.rs.length ≤ 1048576 ∧ (∀ i, i < G.rs.length → TBs 1048576 (G.rs.getD i Rep0).T) ∧ G.wi.length ≤ 1048576 ∧ G.se.length ≤ 1048576 := by
 obtain ⟨h1, h2, h3, h4⟩ := Grp.tb.1 h
 obtain ⟨a1, a2⟩ := (B9 Rep.T Rep0).1 h2
 exact ⟨((B9 iT 0).1 h1).1, a1, a2, ((B9 Pc.T Pc0).1 h3).1, ((B9 Msg.T Msg0).1 h4).1⟩
theorem s34 (G : Grp) (hb : TBs 1048576 G.T) : Pure En 34 [.agg G.T] [.one (.bool (decide G.OK))] := by
 obtain ⟨hF, hR0, hR, hW, hS⟩ := Grp.sm hb
 have hl1 : (G.fa.map iT).length = G.fa.length := List.length_map ..
 have hl2 : (G.rs.map Rep.T).length = G.rs.length := List.length_map ..
 have hl3 : (G.wi.map Pc.T).length = G.wi.length := List.length_map ..
 have hl4 : (G.se.map Msg.T).length = G.se.length := List.length_map ..
 refine Pure.of_ev (st := []) Tryz.func34 rfl kb ?_
 refine A2 ?_ (by exact Q0) (by exact Q4)
 refine A2 ?_ (by exact Q0) (by exact Q4)
 refine B8 (s97 G.nd G.fa false hF) rfl j2 ?_ ?_ <;> intro h1_4
 ·refine A2 ?_ (by exact Q0) (by exact Q4)
  refine A2 ?_ (by exact Q0) (by exact Q4)
  refine br ?_ ?_ <;> intro h1_12
  ·refine B7 rfl ?_; rintro ⟨⟨q1, q2, q3, q4, q5⟩, _⟩; first | exact h1_4 ⟨q1, q2⟩ | omega
  ·refine A2 ?_ (by exact Q0) (by exact Q4)
   refine br ?_ ?_ <;> intro h1_18
   ·refine B7 rfl ?_; rintro ⟨⟨q1, q2, q3, q4, q5⟩, _⟩; first | exact h1_4 ⟨q1, q2⟩ | omega
   ·refine A2 ?_ (by exact Q0) (by exact Q4)
    refine br ?_ ?_ <;> intro h1_24
    ·refine B7 rfl ?_; rintro ⟨⟨q1, q2, q3, q4, q5⟩, _⟩; first | exact h1_4 ⟨q1, q2⟩ | omega
    ·refine A2 ?_ (by exact Q0) (by exact Q4)
     refine A9 (fun (a : Nat × Nat) => [.unk, .ptr 0 0 0, .unk, .unk, .unk, .unk, .unk, .unk, .unk, .unk, .unk, .unk, .unk, .unk, .unk, .unk, .unk, .unk, .unk, .unk, .unk, .unk, .unk, .unk, .unk, .unk, .unk, .unk, .unk, .unk, .unk, .unk, .unk, .unk, .sl false false (G.rs.map Rep.T), .int .i64 ((G.rs.map Rep.T).length : Int), .int .i64 a.1]) (fun (a : Nat × Nat) => hp [(0, ⟨[[.int .i64 G.nd, .sl false false (G.fa.map iT), .sl false false (G.rs.map Rep.T), .sl false false (G.wi.map Pc.T), .sl false false (G.se.map Msg.T)]], 5, 67⟩)]) (fun (a : Nat × Nat) => a.2) (fun (a : Nat × Nat) => a.1 ≤ G.rs.length ∧ 1 ≤ a.2 ∧ ∀ j, j < a.1 → rsOK G.nd G.rs j) (fun (a : Nat × Nat) => G.rs.length - a.1) (0, 1) ?_ ?_ ?_ ?_ ?_
     ·exact ⟨Nat.zero_le _, Nat.le_refl _, F6⟩
     ·(repeat first | exact LE.nil _ | refine LE.unk _ _ ?_ | refine LE.eq _ _ _ rfl ?_)
     ·(repeat first | exact A5 | (refine A6 ?_ ?_; exact H3))
     ·exact Nat.le_refl _
     intro ⟨i, m⟩ hI ih
     obtain ⟨u0, u1, u2⟩ := hI
     dsimp only at u0 u1 u2 ⊢
     refine A3 (st := []) ?_
     refine br ?_ ?_ <;> intro h4_0
     ·(refine C0 (D1 (by first | rfl | assumption | (first | exact A7 Rep.T Rep0 (k := i) (by omega) | exact A7 Pc.T Pc0 (k := i2) (by omega))) rfl ?_))
      (apply est (u := .agg [.int _ _, .int _ _, .int _ _, .bool _, _, _, _, _]) j3; exact Q0; exact Q4; exact j2; rfl; rfl; exact kb; rfl)
      refine A2 ?_ (by exact Q0) (by exact Q4)
      refine br ?_ ?_ <;> intro h6_3
      ·refine B7 rfl ?_; rintro ⟨_, q2, _⟩; obtain ⟨e1, e2, e3⟩ := q2 i (by omega); first | omega | exact h6_13 e3
      ·refine A2 ?_ (by exact Q0) (by exact Q4)
       refine A2 ?_ (by exact Q0) (by exact Q4)
       refine br ?_ ?_ <;> intro h6_9
       ·refine B7 rfl ?_; rintro ⟨_, q2, _⟩; obtain ⟨e1, e2, e3⟩ := q2 i (by omega); first | omega | exact h6_13 e3
       ·(apply D2 (vs := [.int _ _, .int _ _, .int _ _, .bool _, _, _, _, _]) j2; exact Q0; exact Q4; rfl; exact kb; rfl)
        refine B8 (s29 (G.rs.getD i Rep0) (hR i (by omega))) rfl j2 ?_ ?_ <;> intro h6_13
        ·refine E2 ⟨by (first | omega | (rcases h1_4.1 with e | e | e <;> omega)), by (first | omega | (rcases h1_4.1 with e | e | e <;> omega))⟩ ?_
         exact C9 (ih (i + 1, m + 1) ⟨by dsimp only; omega, by dsimp only; omega, E0 u2 ⟨by omega, by omega, h6_13⟩⟩ (by dsimp only; omega)) (by (repeat first | exact LE.nil _ | refine LE.unk _ _ ?_ | refine LE.eq _ _ _ rfl ?_)) (by (repeat first | exact A5 | (refine A6 ?_ ?_; exact H3))) (Nat.le_refl _)
        ·refine B7 rfl ?_; rintro ⟨_, q2, _⟩; obtain ⟨e1, e2, e3⟩ := q2 i (by omega); first | omega | exact h6_13 e3
     ·refine A2 ?_ (by exact Q0) (by exact Q4)
      refine A9 (fun (a : Nat × Nat) => [.unk, .ptr 0 0 0, .unk, .unk, .unk, .unk, .unk, .unk, .unk, .unk, .unk, .unk, .unk, .unk, .unk, .unk, .unk, .unk, .unk, .unk, .unk, .unk, .unk, .unk, .unk, .unk, .unk, .unk, .unk, .unk, .unk, .unk, .unk, .unk, .unk, .unk, .unk, .unk, .unk, .unk, .unk, .unk, .unk, .unk, .unk, .unk, .unk, .unk, .unk, .unk, .unk, .unk, .unk, .unk, .unk, .unk, .unk, .unk, .unk, .sl false false (G.wi.map Pc.T), .int .i64 ((G.wi.map Pc.T).length : Int), .int .i64 a.1]) (fun (a : Nat × Nat) => hp [(0, ⟨[[.int .i64 G.nd, .sl false false (G.fa.map iT), .sl false false (G.rs.map Rep.T), .sl false false (G.wi.map Pc.T), .sl false false (G.se.map Msg.T)]], 5, 67⟩)]) (fun (a : Nat × Nat) => a.2) (fun (a : Nat × Nat) => a.1 ≤ G.wi.length ∧ 1 ≤ a.2 ∧ ∀ j, j < a.1 → pcOK G.nd (G.wi.getD j Pc0)) (fun (a : Nat × Nat) => G.wi.length - a.1) (0, m) ?_ ?_ ?_ ?_ ?_
      ·exact ⟨Nat.zero_le _, u1, F6⟩
      ·(repeat first | exact LE.nil _ | refine LE.unk _ _ ?_ | refine LE.eq _ _ _ rfl ?_)
      ·(repeat first | exact A5 | (refine A6 ?_ ?_; exact H3))
      ·exact Nat.le_refl _
      intro ⟨i2, m2⟩ hI ih
      obtain ⟨v0, v1, v2⟩ := hI
      dsimp only at v0 v1 v2 ⊢
      refine A3 (st := []) ?_
      refine br ?_ ?_ <;> intro h10_0
      ·(refine C0 (D1 (by first | rfl | assumption | (first | exact A7 Rep.T Rep0 (k := i) (by omega) | exact A7 Pc.T Pc0 (k := i2) (by omega))) rfl ?_))
       (apply est (u := .agg [.int _ _, .int _ _, .int _ _, .int _ _, .int _ _, .str _, .str _, .str _]) j3; exact Q0; exact Q4; exact j2; rfl; rfl; exact kb; rfl)
       refine A2 ?_ (by exact Q0) (by exact Q4)
       refine A2 ?_ (by exact Q0) (by exact Q4)
       refine E2 ⟨by (first | omega | (rcases h1_4.1 with e | e | e <;> omega)), by (first | omega | (rcases h1_4.1 with e | e | e <;> omega))⟩ ?_
       refine B8 (Z0 _ _ _) rfl j2 ?_ ?_ <;> intro h12_5
       ·refine A2 ?_ (by exact Q0) (by exact Q4)
        (apply D2 (vs := [.int _ _, .int _ _, .int _ _, .int _ _, .str _, .str _, .str _]) j2; exact Q0; exact Q4; rfl; exact kb; rfl)
        refine B8 (s55 G.nd (G.wi.getD i2 Pc0).ms) rfl j2 ?_ ?_ <;> intro h12_12
        ·refine E2 ⟨by (first | omega | (rcases h1_4.1 with e | e | e <;> omega)), by (first | omega | (rcases h1_4.1 with e | e | e <;> omega))⟩ ?_
         exact C9 (ih (i2 + 1, m2 + 1) ⟨by dsimp only; omega, by dsimp only; omega, E0 v2 ⟨h12_5, h12_12.2⟩⟩ (by dsimp only; omega)) (by (repeat first | exact LE.nil _ | refine LE.unk _ _ ?_ | refine LE.eq _ _ _ rfl ?_)) (by (repeat first | exact A5 | (refine A6 ?_ ?_; exact H3))) (Nat.le_refl _)
        ·refine B7 rfl ?_; rintro ⟨_, _, q3, _⟩; obtain ⟨e1, e2⟩ := q3 i2 (by omega); first | exact h12_5 e1 | exact h12_12 ⟨h1_4.1, e2⟩
       ·refine B7 rfl ?_; rintro ⟨_, _, q3, _⟩; obtain ⟨e1, e2⟩ := q3 i2 (by omega); first | exact h12_5 e1 | exact h12_12 ⟨h1_4.1, e2⟩
      ·refine A2 ?_ (by exact Q0) (by exact Q4)
       refine U5 (o98g false false G.se G (id := 0) ?_ ?_ hS) rfl j2 ?_ ?_
       ·exact G9
       ·exact G9
       all_goals intro h15_3
       ·first
        | (refine B7 rfl ?_; rintro ⟨_, _, _, q4⟩; obtain ⟨x, hx, hn⟩ := of_decide_eq_true h15_3; obtain ⟨k, hk, rfl⟩ := List.getElem_of_mem hx; have := q4 k hk; rw [show G.se.getD k Msg0 = G.se[k] by simp [hk]] at this; exact hn ⟨h1_4.1, this⟩)
        | (refine C3 rfl ?_; refine ⟨⟨h1_4.1, h1_4.2, by omega, by omega, by omega⟩, fun j hj => u2 j (by omega), fun j hj => v2 j (by omega), fun j hj => ?_⟩; refine Classical.byContradiction fun q => of_decide_eq_false h15_3 ⟨G.se.getD j Msg0, ?_, fun e => q e.2⟩; rw [show G.se.getD j Msg0 = G.se[j] by simp [hj]]; exact List.getElem_mem hj)
       ·first
        | (refine B7 rfl ?_; rintro ⟨_, _, _, q4⟩; obtain ⟨x, hx, hn⟩ := of_decide_eq_true h15_3; obtain ⟨k, hk, rfl⟩ := List.getElem_of_mem hx; have := q4 k hk; rw [show G.se.getD k Msg0 = G.se[k] by simp [hk]] at this; exact hn ⟨h1_4.1, this⟩)
        | (refine C3 rfl ?_; refine ⟨⟨h1_4.1, h1_4.2, by omega, by omega, by omega⟩, fun j hj => u2 j (by omega), fun j hj => v2 j (by omega), fun j hj => ?_⟩; refine Classical.byContradiction fun q => of_decide_eq_false h15_3 ⟨G.se.getD j Msg0, ?_, fun e => q e.2⟩; rw [show G.se.getD j Msg0 = G.se[j] by simp [hj]]; exact List.getElem_mem hj)
 ·refine B7 rfl ?_; rintro ⟨⟨q1, q2, q3, q4, q5⟩, _⟩; first | exact h1_4 ⟨q1, q2⟩ | omega
end Go.Proofs.YteifdelnahccjaaGreatDoor
