import Derived.Test.YteifdelnahccjaaGreatDoorW11
namespace Go.Proofs.YteifdelnahccjaaGreatDoor
open Go Go.V
set_option linter.unusedVariables false
set_option linter.unusedSimpArgs false
set_option maxRecDepth 20000
set_option maxHeartbeats 4000000
def ClT (c : Cl) : List V.T := c.T false false
def Cl0 : Cl := ⟨0, 0, false, Rq0, [], []⟩
def shRq : List Sh := .int .i64 :: .int .i64 :: .int .i64 :: .int .i64 :: .str :: []
theorem shRq_inv {xs : List V.T} (h : Shs xs shRq) : ∃ s : Rq, xs = Rq.T s := by
 obtain ⟨_, _, rfl, g0, k0⟩ := B6 h; obtain ⟨a0, rfl⟩ := D2 g0
 obtain ⟨_, _, rfl, g1, k1⟩ := B6 k0; obtain ⟨a1, rfl⟩ := D2 g1
 obtain ⟨_, _, rfl, g2, k2⟩ := B6 k1; obtain ⟨a2, rfl⟩ := D2 g2
 obtain ⟨_, _, rfl, g3, k3⟩ := B6 k2; obtain ⟨a3, rfl⟩ := D2 g3
 obtain ⟨_, _, rfl, g4, k4⟩ := B6 k3; obtain ⟨a4, rfl⟩ := N1 g4
 obtain rfl := H5 k4
 exact ⟨⟨a0, a1, a2, a3, a4⟩, rfl⟩
theorem Rq.tb {B : Nat} {s : Rq} : TBs B (Rq.T s) ↔ s.nm.size ≤ B := by
 simp only [Rq.T, D1, F5, E0, H4, F1, E2, true_and, and_true]
def shAn : List Sh := .int .i64 :: .int .i64 :: .int .i64 :: .int .i64 :: []
theorem X7 {xs : List V.T} (h : Shs xs shAn) : ∃ s : An, xs = An.T s := by
 obtain ⟨_, _, rfl, g0, k0⟩ := B6 h; obtain ⟨a0, rfl⟩ := D2 g0
 obtain ⟨_, _, rfl, g1, k1⟩ := B6 k0; obtain ⟨a1, rfl⟩ := D2 g1
 obtain ⟨_, _, rfl, g2, k2⟩ := B6 k1; obtain ⟨a2, rfl⟩ := D2 g2
 obtain ⟨_, _, rfl, g3, k3⟩ := B6 k2; obtain ⟨a3, rfl⟩ := D2 g3
 obtain rfl := H5 k3
 exact ⟨⟨a0, a1, a2, a3⟩, rfl⟩
theorem An.tbt {B : Nat} (s : An) : TBs B (An.T s) := by
 simp only [An.T, D1, F5, E0, F1, E2, true_and, and_true]
theorem An.tb {B : Nat} {s : An} : TBs B (An.T s) ↔ True := by
 simp only [An.T, D1, F5, E0, H4, F1, E2, true_and, and_true]
def shRp : List Sh := .int .i64 :: .int .i64 :: .int .i64 :: shAn ++ (.str :: [])
theorem shRp_inv {xs : List V.T} (h : Shs xs shRp) : ∃ s : Rp, xs = Rp.T s := by
 obtain ⟨_, _, rfl, g0, k0⟩ := B6 h; obtain ⟨a0, rfl⟩ := D2 g0
 obtain ⟨_, _, rfl, g1, k1⟩ := B6 k0; obtain ⟨a1, rfl⟩ := D2 g1
 obtain ⟨_, _, rfl, g2, k2⟩ := B6 k1; obtain ⟨a2, rfl⟩ := D2 g2
 obtain ⟨_, _, rfl, g3, k3⟩ := T9 k2; obtain ⟨a3, rfl⟩ := X7 g3
 obtain ⟨_, _, rfl, g4, k4⟩ := B6 k3; obtain ⟨a4, rfl⟩ := N1 g4
 obtain rfl := H5 k4
 exact ⟨⟨a0, a1, a2, a3, a4⟩, rfl⟩
theorem Rp.tb {B : Nat} {s : Rp} : TBs B (Rp.T s) ↔ s.mac.size ≤ B := by
 simp only [Rp.T, An.T, An.tbt, D1, F5, E0, H4, F1, E2, true_and, and_true]
def shCl : List Sh := .int .i64 :: .int .i64 :: .bool :: shRq ++ (.sl shRp :: .sl shAn :: [])
theorem shCl_inv {xs : List V.T} (h : Shs xs shCl) : ∃ s : Cl, xs = ClT s := by
 obtain ⟨_, _, rfl, g0, k0⟩ := B6 h; obtain ⟨a0, rfl⟩ := D2 g0
 obtain ⟨_, _, rfl, g1, k1⟩ := B6 k0; obtain ⟨a1, rfl⟩ := D2 g1
 obtain ⟨_, _, rfl, g2, k2⟩ := B6 k1; obtain ⟨a2, rfl⟩ := X0 g2
 obtain ⟨_, _, rfl, g3, k3⟩ := T9 k2; obtain ⟨a3, rfl⟩ := shRq_inv g3
 obtain ⟨_, _, rfl, g4, k4⟩ := B6 k3; obtain ⟨a4, rfl⟩ := G6 (f := Rp.T) g4 (fun _ h => shRp_inv h)
 obtain ⟨_, _, rfl, g5, k5⟩ := B6 k4; obtain ⟨a5, rfl⟩ := G6 (f := An.T) g5 (fun _ h => X7 h)
 obtain rfl := H5 k5
 exact ⟨⟨a0, a1, a2, a3, a4, a5⟩, rfl⟩
theorem Cl.tb {B : Nat} {s : Cl} : TBs B (ClT s) ↔ TBs B (Rq.T s.rq) ∧ TB B (.sl false (s.rps.map Rp.T)) ∧ TB B (.sl false (s.acc.map An.T)) := by
 simp only [ClT, Cl.T, Rq.T, D1, F5, E0, H4, F1, E2, true_and, and_true]
structure Cr where
 cl : Int
 st : Int
 rq : Rq
 bg : Int
 en : Int
 an : An
def Cr.T (s : Cr) : List V.T := .int .i64 s.cl :: .int .i64 s.st :: Rq.T s.rq ++ (.int .i64 s.bg :: .int .i64 s.en :: An.T s.an ++ ([]))
def Cr0 : Cr := ⟨0, 0, Rq0, 0, 0, An0⟩
def shCr : List Sh := .int .i64 :: .int .i64 :: shRq ++ (.int .i64 :: .int .i64 :: shAn ++ ([]))
theorem shCr_inv {xs : List V.T} (h : Shs xs shCr) : ∃ s : Cr, xs = Cr.T s := by
 obtain ⟨_, _, rfl, g0, k0⟩ := B6 h; obtain ⟨a0, rfl⟩ := D2 g0
 obtain ⟨_, _, rfl, g1, k1⟩ := B6 k0; obtain ⟨a1, rfl⟩ := D2 g1
 obtain ⟨_, _, rfl, g2, k2⟩ := T9 k1; obtain ⟨a2, rfl⟩ := shRq_inv g2
 obtain ⟨_, _, rfl, g3, k3⟩ := B6 k2; obtain ⟨a3, rfl⟩ := D2 g3
 obtain ⟨_, _, rfl, g4, k4⟩ := B6 k3; obtain ⟨a4, rfl⟩ := D2 g4
 obtain ⟨_, _, rfl, g5, k5⟩ := T9 k4; obtain ⟨a5, rfl⟩ := X7 g5
 obtain rfl := H5 k5
 exact ⟨⟨a0, a1, a2, a3, a4, a5⟩, rfl⟩
theorem Cr.tb {B : Nat} {s : Cr} : TBs B (Cr.T s) ↔ TBs B (Rq.T s.rq) := by
 simp only [Cr.T, An.tbt, D1, F5, E0, H4, F1, E2, true_and, and_true]
structure Wd where
 gp : Grp
 cs : List Cl
 cr : List Cr
 tm : Int
def Wd.T (s : Wd) : List V.T := Grp.T s.gp ++ (.sl false (s.cs.map ClT) :: .sl false (s.cr.map Cr.T) :: .int .i64 s.tm :: [])
def Wd0 : Wd := ⟨Grp0, [], [], 0⟩
def shWd : List Sh := shGrp ++ (.sl shCl :: .sl shCr :: .int .i64 :: [])
theorem shWd_inv {xs : List V.T} (h : Shs xs shWd) : ∃ s : Wd, xs = Wd.T s := by
 obtain ⟨_, _, rfl, g0, k0⟩ := T9 h; obtain ⟨a0, rfl⟩ := shGrp_inv g0
 obtain ⟨_, _, rfl, g1, k1⟩ := B6 k0; obtain ⟨a1, rfl⟩ := G6 (f := ClT) g1 (fun _ h => shCl_inv h)
 obtain ⟨_, _, rfl, g2, k2⟩ := B6 k1; obtain ⟨a2, rfl⟩ := G6 (f := Cr.T) g2 (fun _ h => shCr_inv h)
 obtain ⟨_, _, rfl, g3, k3⟩ := B6 k2; obtain ⟨a3, rfl⟩ := D2 g3
 obtain rfl := H5 k3
 exact ⟨⟨a0, a1, a2, a3⟩, rfl⟩
theorem Wd.tb {B : Nat} {s : Wd} : TBs B (Wd.T s) ↔ TBs B (Grp.T s.gp) ∧ TB B (.sl false (s.cs.map ClT)) ∧ TB B (.sl false (s.cr.map Cr.T)) := by
 simp only [Wd.T, D1, F5, E0, H4, F1, E2, true_and, and_true]
theorem lz252 (s : Rq) (k : Int) (hk : 0 ≤ k ∧ k ≤ 1048576) (hb : TBs 9223372036854775807 (Rq.T s)) : ∃ x : Int, ((-1 ≤ x ∧ x ≤ k) ∧ (0 ≤ x → TBs 1048576 (Rq.T s))) ∧ Pure En 252 [.agg (Rq.T s), .one (.int .i64 k)] [.one (.int .i64 x)] := by
 have b0 := Rq.tb.1 hb
 refine Pure.of_evX (st := []) Tryz.func252 rfl kb ?_
 refine A1 ?_
 refine C0 ?_
 refine br ?_ ?_ <;> intro h2_1
 ·first | exact ⟨-1, ⟨by omega, fun h => by omega⟩, B4 rfl rfl⟩ | exact ⟨_, ⟨by omega, fun hx => Rq.tb.2 (by omega)⟩, B4 rfl rfl⟩
 ·first | exact ⟨-1, ⟨by omega, fun h => by omega⟩, B4 rfl rfl⟩ | exact ⟨_, ⟨by omega, fun hx => Rq.tb.2 (by omega)⟩, B4 rfl rfl⟩
theorem lt258 (s : Rq) (hb : TBs 1048576 (Rq.T s)) : Pure En 258 [.agg (Rq.T s)] [.agg (Rq.T s)] := by
 have b0 := Rq.tb.1 hb
 refine Pure.of_ev (st := []) Tryz.func258 rfl kb ?_
 refine A1 ?_
 (apply est (u := .int _ _) j3; exact Q0; rfl; exact j4; exact kb; rfl)
 refine A1 ?_
 (apply est (u := .int _ _) j3; exact Q0; rfl; exact j4; exact kb; rfl)
 refine A1 ?_
 (apply est (u := .int _ _) j3; exact Q0; rfl; exact j4; exact kb; rfl)
 refine A1 ?_
 (apply est (u := .int _ _) j3; exact Q0; rfl; exact j4; exact kb; rfl)
 refine A1 ?_
 (apply est (u := .str _) j3; exact Q0; rfl; exact j4; exact kb; rfl)
 (apply C3 (vs := [.int _ _, .int _ _, .int _ _, .int _ _, .str _]) j2; exact Q0; rfl; rfl; exact kb; rfl)
 (apply est (u := .agg [.int _ _, .int _ _, .int _ _, .int _ _, .str _]) j3; exact Q0; rfl; exact j4; exact kb; rfl)
 refine C9 [] (A0 (A3 (xs := (Rq.T s).map (T.toV true)) rfl (by exact Q0) j2 kb rfl) A2) ?_
 exact SnapL.cons _ _ _ _ (SnapC.agg (E1 _)) SnapL.nil
theorem le266 (s : Rq) (hb : TBs 1048576 (Rq.T s)) : Pure En 266 [.agg (Rq.T s), .agg (Rq.T s)] [.one (.bool true)] := by
 have b0 := Rq.tb.1 hb
 refine Pure.of_ev (st := []) Tryz.func266 rfl kb ?_
 refine A1 ?_
 refine A1 ?_
 refine br ?_ ?_ <;> intro h1_4
 ·first | exact B4 rfl rfl | contradiction | (exfalso; simp_all; done)
 ·refine A1 ?_
  refine A1 ?_
  refine br ?_ ?_ <;> intro h3_4
  ·first | exact B4 rfl rfl | contradiction | (exfalso; simp_all; done)
  ·refine A1 ?_
   refine A1 ?_
   refine br ?_ ?_ <;> intro h5_4
   ·first | exact B4 rfl rfl | contradiction | (exfalso; simp_all; done)
   ·refine A1 ?_
    refine A1 ?_
    refine br ?_ ?_ <;> intro h7_4
    ·first | exact B4 rfl rfl | contradiction | (exfalso; simp_all; done)
    ·refine A1 ?_
     refine A1 ?_
     refine br ?_ ?_ <;> intro h9_4
     ·first | exact B4 rfl rfl | contradiction | (exfalso; simp_all; done)
     ·first | exact B4 rfl rfl | contradiction | (exfalso; simp_all; done)
theorem lz254 (L : List An) (k : Int) (hk : 0 ≤ k ∧ k ≤ 1048576) (hb : TB 9223372036854775807 (.sl false (L.map An.T))) : ∃ x : Int, ((-1 ≤ x ∧ x ≤ k) ∧ (0 ≤ x → TB 1048576 (.sl false (L.map An.T)))) ∧ Pure En 254 [.one (.sl false (L.map An.T)), .one (.int .i64 k)] [.one (.int .i64 x)] := by
 have hl : (L.map An.T).length = L.length := List.length_map ..
 obtain ⟨hm, hs⟩ := (B1 An.T An0).1 hb
 refine Pure.of_evX (st := []) Tryz.func254 rfl kb ?_
 refine C0 ?_
 refine br ?_ ?_ <;> intro h2_1
 ·first | exact ⟨-1, ⟨by omega, fun h => by omega⟩, B4 rfl rfl⟩ | exact ⟨_, ⟨by omega, fun hx => (B1 An.T An0).2 ⟨by omega, fun j hj => by simp only [An.T, D1, E0, F1, E2, true_and]⟩⟩, B4 rfl rfl⟩
 ·first | exact ⟨-1, ⟨by omega, fun h => by omega⟩, B4 rfl rfl⟩ | exact ⟨_, ⟨by omega, fun hx => (B1 An.T An0).2 ⟨by omega, fun j hj => by simp only [An.T, D1, E0, F1, E2, true_and]⟩⟩, B4 rfl rfl⟩
theorem lt261 (s : An) (hb : TBs 1048576 (An.T s)) : Pure En 261 [.agg (An.T s)] [.agg (An.T s)] := by
 have b0 := An.tb.1 hb
 refine Pure.of_ev (st := []) Tryz.func261 rfl kb ?_
 refine A1 ?_
 (apply est (u := .int _ _) j3; exact Q0; rfl; exact j4; exact kb; rfl)
 refine A1 ?_
 (apply est (u := .int _ _) j3; exact Q0; rfl; exact j4; exact kb; rfl)
 refine A1 ?_
 (apply est (u := .int _ _) j3; exact Q0; rfl; exact j4; exact kb; rfl)
 refine A1 ?_
 (apply est (u := .int _ _) j3; exact Q0; rfl; exact j4; exact kb; rfl)
 (apply C3 (vs := [.int _ _, .int _ _, .int _ _, .int _ _]) j2; exact Q0; rfl; rfl; exact kb; rfl)
 (apply est (u := .agg [.int _ _, .int _ _, .int _ _, .int _ _]) j3; exact Q0; rfl; exact j4; exact kb; rfl)
 refine C9 [] (A0 (A3 (xs := (An.T s).map (T.toV true)) rfl (by exact Q0) j2 kb rfl) A2) ?_
 exact SnapL.cons _ _ _ _ (SnapC.agg (E1 _)) SnapL.nil
theorem lt260 (L : List An) (hb : TB 1048576 (.sl false (L.map An.T))) : Pure En 260 [.one (.sl false (L.map An.T))] [.one (.sl false (L.map An.T))] := by
 have hl : (L.map An.T).length = L.length := List.length_map ..
 obtain ⟨hm, hs⟩ := (B1 An.T An0).1 hb
 refine Pure.of_ev (st := []) Tryz.func260 rfl kb ?_
 refine emk (s' := 32) j6 kz ?_ ?_ ?_
 ·exact Q8
 ·exact Q8
 refine B3 (fun (i : Nat) => [.sl false false (L.map An.T), .unk, .unk, .view 0 0 (L.map An.T).length, .int .i64 i]) (fun (i : Nat) => hp [(0, ⟨mkG (vT An.T) [.int .i64 0, .int .i64 0, .int .i64 0, .int .i64 0] L i, 4, 165⟩)]) (fun (i : Nat) => 1) (fun (i : Nat) => i ≤ L.length) (fun (i : Nat) => L.length - i) 0 ?_ ?_ ?_ ?_ ?_
 ·exact Nat.zero_le _
 ·(repeat first | exact LE.nil _ | refine LE.unk _ _ ?_ | refine LE.eq _ _ _ rfl ?_)
 ·(repeat first | exact A5 | (refine A4 ?_ ?_; (first | exact Q0 | ((simp (disch := omega) only [↓app0, ↓appC, ↓updS, ↓updN, ↓hpS, ↓hpN]); exact congrArg (fun z => some (Blk.mk z 4 165)) (by rw [E9, ← hl]; rfl)))))
 ·exact Nat.le_refl _
 intro i hI ih
 refine A6 (st := []) ?_
 refine br ?_ ?_ <;> intro h3_3
 ·(refine B9 (C5 (by first | rfl | assumption | (exact A9 An.T An0 (by omega))) rfl ?_))
  refine C1 (lt261 (L.getD i An0) (hs i (by omega))) rfl rfl rfl ?_
  (refine H1 (by exact Q0) ⟨rfl, B9 ?_⟩)
  (apply est j3; exact Q0; exact H2 (vT An.T) [.int .i64 0, .int .i64 0, .int .i64 0, .int .i64 0] (by omega); exact j4; exact kb; rfl)
  refine C0 ?_
  exact C6 (ih (i + 1) (by omega) (by omega)) (by (repeat first | exact LE.nil _ | refine LE.unk _ _ ?_ | refine LE.eq _ _ _ rfl ?_)) (by (repeat first | exact A5 | (refine A4 ?_ ?_; ((simp (disch := omega) only [↓app0, ↓appC, ↓updS, ↓updN, ↓hpS, ↓hpN]); exact congrArg (fun z => some (Blk.mk z 4 165)) (H3 (vT An.T) [.int .i64 0, .int .i64 0, .int .i64 0, .int .i64 0] An0 (by omega)))))) (Nat.le_refl _)
 ·obtain rfl : i = L.length := by omega
  refine C9 [0] rfl ?_
  exact SnapL.cons _ _ _ _ (.one _ _ (F2 (sz := 4) (ty := 165) (by simp) (by (simp (disch := omega) only [↓app0, ↓appC, ↓updS, ↓updN, ↓hpS, ↓hpN]); exact congrArg (fun z => some (Blk.mk z 4 165)) (F0 (vT An.T) [.int .i64 0, .int .i64 0, .int .i64 0, .int .i64 0] L)) hl)) SnapL.nil
theorem le269 (s : An) (hb : TBs 1048576 (An.T s)) : Pure En 269 [.agg (An.T s), .agg (An.T s)] [.one (.bool true)] := by
 have b0 := An.tb.1 hb
 refine Pure.of_ev (st := []) Tryz.func269 rfl kb ?_
 refine A1 ?_
 refine A1 ?_
 refine br ?_ ?_ <;> intro h1_4
 ·first | exact B4 rfl rfl | contradiction | (exfalso; simp_all; done)
 ·refine A1 ?_
  refine A1 ?_
  refine br ?_ ?_ <;> intro h3_4
  ·first | exact B4 rfl rfl | contradiction | (exfalso; simp_all; done)
  ·refine A1 ?_
   refine A1 ?_
   refine br ?_ ?_ <;> intro h5_4
   ·first | exact B4 rfl rfl | contradiction | (exfalso; simp_all; done)
   ·refine A1 ?_
    refine A1 ?_
    refine br ?_ ?_ <;> intro h7_4
    ·first | exact B4 rfl rfl | contradiction | (exfalso; simp_all; done)
    ·first | exact B4 rfl rfl | contradiction | (exfalso; simp_all; done)
theorem le268 (L : List An) (hb : TB 1048576 (.sl false (L.map An.T))) : Pure En 268 [.one (.sl false (L.map An.T)), .one (.sl false (L.map An.T))] [.one (.bool true)] := by
 have hl : (L.map An.T).length = L.length := List.length_map ..
 obtain ⟨hm, hs⟩ := (B1 An.T An0).1 hb
 refine Pure.of_ev (st := []) Tryz.func268 rfl kb ?_
 refine br ?_ ?_ <;> intro h1_4
 ·first | exact B4 rfl rfl | contradiction | (exfalso; simp_all; done)
 ·refine C4 (fun (i : Nat) => [.sl false false (L.map An.T), .sl false false (L.map An.T), .unk, .unk, .unk, .int .i64 i]) (fun (i : Nat) => i ≤ L.length) (fun (i : Nat) => L.length - i) 0 ?_ ?_ ?_
  ·exact Nat.zero_le _
  ·(repeat first | exact LE.nil _ | refine LE.unk _ _ ?_ | refine LE.eq _ _ _ rfl ?_)
  intro i hI ih
  refine A6 (st := []) ?_
  refine br ?_ ?_ <;> intro h4_3
  ·(refine B9 (C5 (by first | rfl | assumption | (exact A9 An.T An0 (by omega))) rfl ?_))
   (refine B9 (C5 (by first | rfl | assumption | (exact A9 An.T An0 (by omega))) rfl ?_))
   refine C1 (le269 (L.getD i An0) (hs i (by omega))) rfl rfl rfl ?_
   refine C0 ?_
   exact N4 (ih (i + 1) (by omega) (by omega)) (by (repeat first | exact LE.nil _ | refine LE.unk _ _ ?_ | refine LE.eq _ _ _ rfl ?_))
  ·first | exact B4 rfl rfl | contradiction | (exfalso; simp_all; done)
theorem lz299 (s : Rp) (k : Int) (hk : 0 ≤ k ∧ k ≤ 1048576) (hb : TBs 9223372036854775807 (Rp.T s)) : ∃ x : Int, ((-1 ≤ x ∧ x ≤ k) ∧ (0 ≤ x → TBs 1048576 (Rp.T s))) ∧ Pure En 299 [.agg (Rp.T s), .one (.int .i64 k)] [.one (.int .i64 x)] := by
 have b0 := Rp.tb.1 hb
 refine Pure.of_evX (st := []) Tryz.func299 rfl kb ?_
 refine A1 ?_
 refine C0 ?_
 refine br ?_ ?_ <;> intro h2_1
 ·first | exact ⟨-1, ⟨by omega, fun h => by omega⟩, B4 rfl rfl⟩ | exact ⟨_, ⟨by omega, fun hx => Rp.tb.2 (by omega)⟩, B4 rfl rfl⟩
 ·first | exact ⟨-1, ⟨by omega, fun h => by omega⟩, B4 rfl rfl⟩ | exact ⟨_, ⟨by omega, fun hx => Rp.tb.2 (by omega)⟩, B4 rfl rfl⟩
theorem lz253 (L : List Rp) (k : Int) (hk : 0 ≤ k ∧ k ≤ 1048576) (hb : TB 9223372036854775807 (.sl false (L.map Rp.T))) : ∃ x : Int, ((-1 ≤ x ∧ x ≤ k) ∧ (0 ≤ x → TB 1048576 (.sl false (L.map Rp.T)))) ∧ Pure En 253 [.one (.sl false (L.map Rp.T)), .one (.int .i64 k)] [.one (.int .i64 x)] := by
 have hl : (L.map Rp.T).length = L.length := List.length_map ..
 obtain ⟨hm, hs⟩ := (B1 Rp.T Rp0).1 hb
 refine Pure.of_evX (st := []) Tryz.func253 rfl kb ?_
 refine C0 ?_
 refine br ?_ ?_ <;> intro h2_1
 ·first | exact ⟨-1, ⟨by omega, fun h => by omega⟩, B4 rfl rfl⟩ | exact ⟨a1, ⟨by omega, fun _ => (B1 Rp.T Rp0).2 ⟨by omega, fun j hj => q3 j (by omega)⟩⟩, B4 rfl rfl⟩
 ·refine C4 (fun (a : Nat × Int) => [.sl false false (L.map Rp.T), .int .i64 a.2, .unk, .unk, .unk, .int .i64 a.1]) (fun (a : Nat × Int) => a.1 ≤ L.length ∧ (0 ≤ a.2 ∧ a.2 ≤ k) ∧ (L.length : Int) ≤ k ∧ ∀ j, j < a.1 → TBs 1048576 (Rp.T (L.getD j Rp0))) (fun (a : Nat × Int) => L.length - a.1) (0, k - (L.map Rp.T).length) ?_ ?_ ?_
  ·exact ⟨Nat.zero_le _, by dsimp only; omega, by omega, fun j hj => absurd hj (Nat.not_lt_zero j)⟩
  ·(repeat first | exact LE.nil _ | refine LE.unk _ _ ?_ | refine LE.eq _ _ _ rfl ?_)
  intro ⟨i, a1⟩ hI ih
  obtain ⟨q0, q1, q2, q3⟩ := hI
  dsimp only at q0 q1 q2 q3 ⊢
  refine A6 (st := []) ?_
  refine br ?_ ?_ <;> intro h5_3
  ·(refine B9 (C5 (by first | rfl | assumption | (exact A9 Rp.T Rp0 (by omega))) rfl ?_))
   refine G2 (lz299 (L.getD i Rp0) a1 (by omega) (hs i (by omega))) rfl j2 ?_
   rintro y h7_5
   try dsimp only at h7_5
   refine br ?_ ?_ <;> intro h8_1
   ·first | exact ⟨-1, ⟨by omega, fun h => by omega⟩, B4 rfl rfl⟩ | exact ⟨a1, ⟨by omega, fun _ => (B1 Rp.T Rp0).2 ⟨by omega, fun j hj => q3 j (by omega)⟩⟩, B4 rfl rfl⟩
   ·refine C0 ?_
    exact N4 (ih (i + 1, y) ⟨by dsimp only; omega, by dsimp only; omega, by omega, fun j hj => by
     by_cases e : j = i
     ·subst e; exact h7_5.2 (by omega)
     ·exact q3 j (by dsimp only at hj; omega)⟩ (by dsimp only; omega)) (by (repeat first | exact LE.nil _ | refine LE.unk _ _ ?_ | refine LE.eq _ _ _ rfl ?_))
  ·first | exact ⟨-1, ⟨by omega, fun h => by omega⟩, B4 rfl rfl⟩ | exact ⟨a1, ⟨by omega, fun _ => (B1 Rp.T Rp0).2 ⟨by omega, fun j hj => q3 j (by omega)⟩⟩, B4 rfl rfl⟩
theorem lt302 (s : Rp) (hb : TBs 1048576 (Rp.T s)) : Pure En 302 [.agg (Rp.T s)] [.agg (Rp.T s)] := by
 have b0 := Rp.tb.1 hb
 refine Pure.of_ev (st := []) Tryz.func302 rfl kb ?_
 refine A1 ?_
 (apply est (u := .int _ _) j3; exact Q0; rfl; exact j4; exact kb; rfl)
 refine A1 ?_
 (apply est (u := .int _ _) j3; exact Q0; rfl; exact j4; exact kb; rfl)
 refine A1 ?_
 (apply est (u := .int _ _) j3; exact Q0; rfl; exact j4; exact kb; rfl)
 (apply C3 (vs := [.int _ _, .int _ _, .int _ _, .int _ _]) j2; exact Q0; rfl; rfl; exact kb; rfl)
 refine C1 (lt261 s.an (An.tbt _)) rfl rfl rfl ?_
 (apply est (u := .agg [.int _ _, .int _ _, .int _ _, .int _ _]) j3; exact Q0; rfl; exact j4; exact kb; rfl)
 refine A1 ?_
 (apply est (u := .str _) j3; exact Q0; rfl; exact j4; exact kb; rfl)
 (apply C3 (vs := [.int _ _, .int _ _, .int _ _, .int _ _, .int _ _, .int _ _, .int _ _, .str _]) j2; exact Q0; rfl; rfl; exact kb; rfl)
 (apply est (u := .agg [.int _ _, .int _ _, .int _ _, .int _ _, .int _ _, .int _ _, .int _ _, .str _]) j3; exact Q0; rfl; exact j4; exact kb; rfl)
 refine C9 [] (A0 (A3 (xs := (Rp.T s).map (T.toV true)) rfl (by exact Q0) j2 kb rfl) A2) ?_
 exact SnapL.cons _ _ _ _ (SnapC.agg (E1 _)) SnapL.nil
theorem lt259 (L : List Rp) (hb : TB 1048576 (.sl false (L.map Rp.T))) : Pure En 259 [.one (.sl false (L.map Rp.T))] [.one (.sl false (L.map Rp.T))] := by
 have hl : (L.map Rp.T).length = L.length := List.length_map ..
 obtain ⟨hm, hs⟩ := (B1 Rp.T Rp0).1 hb
 refine Pure.of_ev (st := []) Tryz.func259 rfl kb ?_
 refine emk (s' := 72) j6 kz ?_ ?_ ?_
 ·exact Q8
 ·exact Q8
 refine B3 (fun (i : Nat) => [.sl false false (L.map Rp.T), .unk, .unk, .view 0 0 (L.map Rp.T).length, .int .i64 i]) (fun (i : Nat) => hp [(0, ⟨mkG (vT Rp.T) [.int .i64 0, .int .i64 0, .int .i64 0, .int .i64 0, .int .i64 0, .int .i64 0, .int .i64 0, .str ⟨#[]⟩] L i, 8, 252⟩)]) (fun (i : Nat) => 1) (fun (i : Nat) => i ≤ L.length) (fun (i : Nat) => L.length - i) 0 ?_ ?_ ?_ ?_ ?_
 ·exact Nat.zero_le _
 ·(repeat first | exact LE.nil _ | refine LE.unk _ _ ?_ | refine LE.eq _ _ _ rfl ?_)
 ·(repeat first | exact A5 | (refine A4 ?_ ?_; (first | exact Q0 | ((simp (disch := omega) only [↓app0, ↓appC, ↓updS, ↓updN, ↓hpS, ↓hpN]); exact congrArg (fun z => some (Blk.mk z 8 252)) (by rw [E9, ← hl]; rfl)))))
 ·exact Nat.le_refl _
 intro i hI ih
 refine A6 (st := []) ?_
 refine br ?_ ?_ <;> intro h3_3
 ·(refine B9 (C5 (by first | rfl | assumption | (exact A9 Rp.T Rp0 (by omega))) rfl ?_))
  refine C1 (lt302 (L.getD i Rp0) (hs i (by omega))) rfl rfl rfl ?_
  (refine H1 (by exact Q0) ⟨rfl, B9 ?_⟩)
  (apply est j3; exact Q0; exact H2 (vT Rp.T) [.int .i64 0, .int .i64 0, .int .i64 0, .int .i64 0, .int .i64 0, .int .i64 0, .int .i64 0, .str ⟨#[]⟩] (by omega); exact j4; exact kb; rfl)
  refine C0 ?_
  exact C6 (ih (i + 1) (by omega) (by omega)) (by (repeat first | exact LE.nil _ | refine LE.unk _ _ ?_ | refine LE.eq _ _ _ rfl ?_)) (by (repeat first | exact A5 | (refine A4 ?_ ?_; ((simp (disch := omega) only [↓app0, ↓appC, ↓updS, ↓updN, ↓hpS, ↓hpN]); exact congrArg (fun z => some (Blk.mk z 8 252)) (H3 (vT Rp.T) [.int .i64 0, .int .i64 0, .int .i64 0, .int .i64 0, .int .i64 0, .int .i64 0, .int .i64 0, .str ⟨#[]⟩] Rp0 (by omega)))))) (Nat.le_refl _)
 ·obtain rfl : i = L.length := by omega
  refine C9 [0] rfl ?_
  exact SnapL.cons _ _ _ _ (.one _ _ (F2 (sz := 8) (ty := 252) (by simp) (by (simp (disch := omega) only [↓app0, ↓appC, ↓updS, ↓updN, ↓hpS, ↓hpN]); exact congrArg (fun z => some (Blk.mk z 8 252)) (F0 (vT Rp.T) [.int .i64 0, .int .i64 0, .int .i64 0, .int .i64 0, .int .i64 0, .int .i64 0, .int .i64 0, .str ⟨#[]⟩] L)) hl)) SnapL.nil
theorem le305 (s : Rp) (hb : TBs 1048576 (Rp.T s)) : Pure En 305 [.agg (Rp.T s), .agg (Rp.T s)] [.one (.bool true)] := by
 have b0 := Rp.tb.1 hb
 refine Pure.of_ev (st := []) Tryz.func305 rfl kb ?_
 refine A1 ?_
 refine A1 ?_
 refine br ?_ ?_ <;> intro h1_4
 ·first | exact B4 rfl rfl | contradiction | (exfalso; simp_all; done)
 ·refine A1 ?_
  refine A1 ?_
  refine br ?_ ?_ <;> intro h3_4
  ·first | exact B4 rfl rfl | contradiction | (exfalso; simp_all; done)
  ·refine A1 ?_
   refine A1 ?_
   refine br ?_ ?_ <;> intro h5_4
   ·first | exact B4 rfl rfl | contradiction | (exfalso; simp_all; done)
   ·(apply C3 (vs := [.int _ _, .int _ _, .int _ _, .int _ _]) j2; exact Q0; rfl; rfl; exact kb; rfl)
    (apply C3 (vs := [.int _ _, .int _ _, .int _ _, .int _ _]) j2; exact Q0; rfl; rfl; exact kb; rfl)
    refine C1 (le269 s.an (An.tbt _)) rfl rfl rfl ?_
    refine A1 ?_
    refine A1 ?_
    refine br ?_ ?_ <;> intro h9_4
    ·first | exact B4 rfl rfl | contradiction | (exfalso; simp_all; done)
    ·first | exact B4 rfl rfl | contradiction | (exfalso; simp_all; done)
theorem le267 (L : List Rp) (hb : TB 1048576 (.sl false (L.map Rp.T))) : Pure En 267 [.one (.sl false (L.map Rp.T)), .one (.sl false (L.map Rp.T))] [.one (.bool true)] := by
 have hl : (L.map Rp.T).length = L.length := List.length_map ..
 obtain ⟨hm, hs⟩ := (B1 Rp.T Rp0).1 hb
 refine Pure.of_ev (st := []) Tryz.func267 rfl kb ?_
 refine br ?_ ?_ <;> intro h1_4
 ·first | exact B4 rfl rfl | contradiction | (exfalso; simp_all; done)
 ·refine C4 (fun (i : Nat) => [.sl false false (L.map Rp.T), .sl false false (L.map Rp.T), .unk, .unk, .unk, .int .i64 i]) (fun (i : Nat) => i ≤ L.length) (fun (i : Nat) => L.length - i) 0 ?_ ?_ ?_
  ·exact Nat.zero_le _
  ·(repeat first | exact LE.nil _ | refine LE.unk _ _ ?_ | refine LE.eq _ _ _ rfl ?_)
  intro i hI ih
  refine A6 (st := []) ?_
  refine br ?_ ?_ <;> intro h4_3
  ·(refine B9 (C5 (by first | rfl | assumption | (exact A9 Rp.T Rp0 (by omega))) rfl ?_))
   (refine B9 (C5 (by first | rfl | assumption | (exact A9 Rp.T Rp0 (by omega))) rfl ?_))
   refine C1 (le305 (L.getD i Rp0) (hs i (by omega))) rfl rfl rfl ?_
   refine C0 ?_
   exact N4 (ih (i + 1) (by omega) (by omega)) (by (repeat first | exact LE.nil _ | refine LE.unk _ _ ?_ | refine LE.eq _ _ _ rfl ?_))
  ·first | exact B4 rfl rfl | contradiction | (exfalso; simp_all; done)
theorem lz192 (s : Cl) (k : Int) (hk : 0 ≤ k ∧ k ≤ 1048576) (hb : TBs 9223372036854775807 (ClT s)) : ∃ x : Int, ((-1 ≤ x ∧ x ≤ k) ∧ (0 ≤ x → TBs 1048576 (ClT s))) ∧ Pure En 192 [.agg (ClT s), .one (.int .i64 k)] [.one (.int .i64 x)] := by
 obtain ⟨b0, b1, b2⟩ := Cl.tb.1 hb
 refine Pure.of_evX (st := []) Tryz.func192 rfl kb ?_
 (apply C3 (vs := [.int _ _, .int _ _, .int _ _, .int _ _, .str _]) j2; exact Q0; rfl; rfl; exact kb; rfl)
 refine G2 (lz252 s.rq (k) (by omega) b0) rfl j2 ?_
 rintro y0 h1_3
 try dsimp only at h1_3
 refine br ?_ ?_ <;> intro h2_1
 ·first | exact ⟨-1, ⟨by omega, fun h => by omega⟩, B4 rfl rfl⟩ | exact ⟨_, ⟨by omega, fun hx => Cl.tb.2 ⟨h1_3.2 (by omega), h4_3.2 (by omega), h7_3.2 (by omega)⟩⟩, B4 rfl rfl⟩
 ·refine A1 ?_
  refine G2 (lz253 s.rps (y0) (by omega) b1) rfl j2 ?_
  rintro y1 h4_3
  try dsimp only at h4_3
  refine br ?_ ?_ <;> intro h5_1
  ·first | exact ⟨-1, ⟨by omega, fun h => by omega⟩, B4 rfl rfl⟩ | exact ⟨_, ⟨by omega, fun hx => Cl.tb.2 ⟨h1_3.2 (by omega), h4_3.2 (by omega), h7_3.2 (by omega)⟩⟩, B4 rfl rfl⟩
  ·refine A1 ?_
   refine G2 (lz254 s.acc (y1) (by omega) b2) rfl j2 ?_
   rintro y2 h7_3
   try dsimp only at h7_3
   refine br ?_ ?_ <;> intro h8_1
   ·first | exact ⟨-1, ⟨by omega, fun h => by omega⟩, B4 rfl rfl⟩ | exact ⟨_, ⟨by omega, fun hx => Cl.tb.2 ⟨h1_3.2 (by omega), h4_3.2 (by omega), h7_3.2 (by omega)⟩⟩, B4 rfl rfl⟩
   ·first | exact ⟨-1, ⟨by omega, fun h => by omega⟩, B4 rfl rfl⟩ | exact ⟨_, ⟨by omega, fun hx => Cl.tb.2 ⟨h1_3.2 (by omega), h4_3.2 (by omega), h7_3.2 (by omega)⟩⟩, B4 rfl rfl⟩
theorem lz126 (L : List Cl) (k : Int) (hk : 0 ≤ k ∧ k ≤ 1048576) (hb : TB 9223372036854775807 (.sl false (L.map ClT))) : ∃ x : Int, ((-1 ≤ x ∧ x ≤ k) ∧ (0 ≤ x → TB 1048576 (.sl false (L.map ClT)))) ∧ Pure En 126 [.one (.sl false (L.map ClT)), .one (.int .i64 k)] [.one (.int .i64 x)] := by
 have hl : (L.map ClT).length = L.length := List.length_map ..
 obtain ⟨hm, hs⟩ := (B1 ClT Cl0).1 hb
 refine Pure.of_evX (st := []) Tryz.func126 rfl kb ?_
 refine C0 ?_
 refine br ?_ ?_ <;> intro h2_1
 ·first | exact ⟨-1, ⟨by omega, fun h => by omega⟩, B4 rfl rfl⟩ | exact ⟨a1, ⟨by omega, fun _ => (B1 ClT Cl0).2 ⟨by omega, fun j hj => q3 j (by omega)⟩⟩, B4 rfl rfl⟩
 ·refine C4 (fun (a : Nat × Int) => [.sl false false (L.map ClT), .int .i64 a.2, .unk, .unk, .unk, .int .i64 a.1]) (fun (a : Nat × Int) => a.1 ≤ L.length ∧ (0 ≤ a.2 ∧ a.2 ≤ k) ∧ (L.length : Int) ≤ k ∧ ∀ j, j < a.1 → TBs 1048576 (ClT (L.getD j Cl0))) (fun (a : Nat × Int) => L.length - a.1) (0, k - (L.map ClT).length) ?_ ?_ ?_
  ·exact ⟨Nat.zero_le _, by dsimp only; omega, by omega, fun j hj => absurd hj (Nat.not_lt_zero j)⟩
  ·(repeat first | exact LE.nil _ | refine LE.unk _ _ ?_ | refine LE.eq _ _ _ rfl ?_)
  intro ⟨i, a1⟩ hI ih
  obtain ⟨q0, q1, q2, q3⟩ := hI
  dsimp only at q0 q1 q2 q3 ⊢
  refine A6 (st := []) ?_
  refine br ?_ ?_ <;> intro h5_3
  ·(refine B9 (C5 (by first | rfl | assumption | (exact A9 ClT Cl0 (by omega))) rfl ?_))
   refine G2 (lz192 (L.getD i Cl0) a1 (by omega) (hs i (by omega))) rfl j2 ?_
   rintro y h7_5
   try dsimp only at h7_5
   refine br ?_ ?_ <;> intro h8_1
   ·first | exact ⟨-1, ⟨by omega, fun h => by omega⟩, B4 rfl rfl⟩ | exact ⟨a1, ⟨by omega, fun _ => (B1 ClT Cl0).2 ⟨by omega, fun j hj => q3 j (by omega)⟩⟩, B4 rfl rfl⟩
   ·refine C0 ?_
    exact N4 (ih (i + 1, y) ⟨by dsimp only; omega, by dsimp only; omega, by omega, fun j hj => by
     by_cases e : j = i
     ·subst e; exact h7_5.2 (by omega)
     ·exact q3 j (by dsimp only at hj; omega)⟩ (by dsimp only; omega)) (by (repeat first | exact LE.nil _ | refine LE.unk _ _ ?_ | refine LE.eq _ _ _ rfl ?_))
  ·first | exact ⟨-1, ⟨by omega, fun h => by omega⟩, B4 rfl rfl⟩ | exact ⟨a1, ⟨by omega, fun _ => (B1 ClT Cl0).2 ⟨by omega, fun j hj => q3 j (by omega)⟩⟩, B4 rfl rfl⟩
theorem lt198 (s : Cl) (hb : TBs 1048576 (ClT s)) : Pure En 198 [.agg (ClT s)] [.agg (ClT s)] := by
 obtain ⟨b0, b1, b2⟩ := Cl.tb.1 hb
 refine Pure.of_ev (st := []) Tryz.func198 rfl kb ?_
 refine A1 ?_
 (apply est (u := .int _ _) j3; exact Q0; rfl; exact j4; exact kb; rfl)
 refine A1 ?_
 (apply est (u := .int _ _) j3; exact Q0; rfl; exact j4; exact kb; rfl)
 refine A1 ?_
 refine brB ?_ ?_ <;> intro h4_1
 ·(apply est (u := .bool _) j3; exact Q0; rfl; exact j4; exact kb; rfl)
  (apply C3 (vs := [.int _ _, .int _ _, .int _ _, .int _ _, .str _]) j2; exact Q0; rfl; rfl; exact kb; rfl)
  refine C1 (lt258 s.rq b0) rfl rfl rfl ?_
  (apply est (u := .agg [.int _ _, .int _ _, .int _ _, .int _ _, .str _]) j3; exact Q0; rfl; exact j4; exact kb; rfl)
  refine A1 ?_
  refine C1 (lt259 s.rps b1) rfl rfl rfl ?_
  (apply est (u := .sl _ _ _) j3; exact Q0; rfl; exact j4; exact kb; rfl)
  refine A1 ?_
  refine C1 (lt260 s.acc b2) rfl rfl rfl ?_
  (apply est (u := .sl _ _ _) j3; exact Q0; rfl; exact j4; exact kb; rfl)
  (apply C3 (vs := [.int _ _, .int _ _, .bool _, .int _ _, .int _ _, .int _ _, .int _ _, .str _, _, _]) j2; exact Q0; rfl; rfl; exact kb; rfl)
  (apply est (u := .agg [.int _ _, .int _ _, .bool _, .int _ _, .int _ _, .int _ _, .int _ _, .str _, _, _]) j3; exact Q0; rfl; exact j4; exact kb; rfl)
  refine C9 [] (A0 (A3 (xs := (ClT s).map (T.toV true)) rfl (by exact Q0) j2 kb (by simp only [ClT, Cl.T, ‹s.bz = _›] <;> rfl)) A2) ?_
  exact SnapL.cons _ _ _ _ (SnapC.agg (E1 _)) SnapL.nil
 ·(apply est (u := .bool _) j3; exact Q0; rfl; exact j4; exact kb; rfl)
  (apply C3 (vs := [.int _ _, .int _ _, .int _ _, .int _ _, .str _]) j2; exact Q0; rfl; rfl; exact kb; rfl)
  refine C1 (lt258 s.rq b0) rfl rfl rfl ?_
  (apply est (u := .agg [.int _ _, .int _ _, .int _ _, .int _ _, .str _]) j3; exact Q0; rfl; exact j4; exact kb; rfl)
  refine A1 ?_
  refine C1 (lt259 s.rps b1) rfl rfl rfl ?_
  (apply est (u := .sl _ _ _) j3; exact Q0; rfl; exact j4; exact kb; rfl)
  refine A1 ?_
  refine C1 (lt260 s.acc b2) rfl rfl rfl ?_
  (apply est (u := .sl _ _ _) j3; exact Q0; rfl; exact j4; exact kb; rfl)
  (apply C3 (vs := [.int _ _, .int _ _, .bool _, .int _ _, .int _ _, .int _ _, .int _ _, .str _, _, _]) j2; exact Q0; rfl; rfl; exact kb; rfl)
  (apply est (u := .agg [.int _ _, .int _ _, .bool _, .int _ _, .int _ _, .int _ _, .int _ _, .str _, _, _]) j3; exact Q0; rfl; exact j4; exact kb; rfl)
  refine C9 [] (A0 (A3 (xs := (ClT s).map (T.toV true)) rfl (by exact Q0) j2 kb (by simp only [ClT, Cl.T, ‹s.bz = _›] <;> rfl)) A2) ?_
  exact SnapL.cons _ _ _ _ (SnapC.agg (E1 _)) SnapL.nil
theorem lt130 (L : List Cl) (hb : TB 1048576 (.sl false (L.map ClT))) : Pure En 130 [.one (.sl false (L.map ClT))] [.one (.sl false (L.map ClT))] := by
 have hl : (L.map ClT).length = L.length := List.length_map ..
 obtain ⟨hm, hs⟩ := (B1 ClT Cl0).1 hb
 refine Pure.of_ev (st := []) Tryz.func130 rfl kb ?_
 refine emk (s' := 120) j6 kz ?_ ?_ ?_
 ·exact Q8
 ·exact Q8
 refine B3 (fun (i : Nat) => [.sl false false (L.map ClT), .unk, .unk, .view 0 0 (L.map ClT).length, .int .i64 i]) (fun (i : Nat) => hp [(0, ⟨mkG (vT ClT) [.int .i64 0, .int .i64 0, .bool false, .int .i64 0, .int .i64 0, .int .i64 0, .int .i64 0, .str ⟨#[]⟩, .nsl, .nsl] L i, 10, 172⟩)]) (fun (i : Nat) => 1) (fun (i : Nat) => i ≤ L.length) (fun (i : Nat) => L.length - i) 0 ?_ ?_ ?_ ?_ ?_
 ·exact Nat.zero_le _
 ·(repeat first | exact LE.nil _ | refine LE.unk _ _ ?_ | refine LE.eq _ _ _ rfl ?_)
 ·(repeat first | exact A5 | (refine A4 ?_ ?_; (first | exact Q0 | ((simp (disch := omega) only [↓app0, ↓appC, ↓updS, ↓updN, ↓hpS, ↓hpN]); exact congrArg (fun z => some (Blk.mk z 10 172)) (by rw [E9, ← hl]; rfl)))))
 ·exact Nat.le_refl _
 intro i hI ih
 refine A6 (st := []) ?_
 refine br ?_ ?_ <;> intro h3_3
 ·(refine B9 (C5 (by first | rfl | assumption | (exact A9 ClT Cl0 (by omega))) rfl ?_))
  refine C1 (lt198 (L.getD i Cl0) (hs i (by omega))) rfl rfl rfl ?_
  (refine H1 (by exact Q0) ⟨rfl, B9 ?_⟩)
  (apply est j3; exact Q0; exact H2 (vT ClT) [.int .i64 0, .int .i64 0, .bool false, .int .i64 0, .int .i64 0, .int .i64 0, .int .i64 0, .str ⟨#[]⟩, .nsl, .nsl] (by omega); exact j4; exact kb; rfl)
  refine C0 ?_
  exact C6 (ih (i + 1) (by omega) (by omega)) (by (repeat first | exact LE.nil _ | refine LE.unk _ _ ?_ | refine LE.eq _ _ _ rfl ?_)) (by (repeat first | exact A5 | (refine A4 ?_ ?_; ((simp (disch := omega) only [↓app0, ↓appC, ↓updS, ↓updN, ↓hpS, ↓hpN]); exact congrArg (fun z => some (Blk.mk z 10 172)) (H3 (vT ClT) [.int .i64 0, .int .i64 0, .bool false, .int .i64 0, .int .i64 0, .int .i64 0, .int .i64 0, .str ⟨#[]⟩, .nsl, .nsl] Cl0 (by omega)))))) (Nat.le_refl _)
 ·obtain rfl : i = L.length := by omega
  refine C9 [0] rfl ?_
  exact SnapL.cons _ _ _ _ (.one _ _ (F2 (sz := 10) (ty := 172) (by simp) (by (simp (disch := omega) only [↓app0, ↓appC, ↓updS, ↓updN, ↓hpS, ↓hpN]); exact congrArg (fun z => some (Blk.mk z 10 172)) (F0 (vT ClT) [.int .i64 0, .int .i64 0, .bool false, .int .i64 0, .int .i64 0, .int .i64 0, .int .i64 0, .str ⟨#[]⟩, .nsl, .nsl] L)) hl)) SnapL.nil
theorem le209 (s : Cl) (hb : TBs 1048576 (ClT s)) : Pure En 209 [.agg (ClT s), .agg (ClT s)] [.one (.bool true)] := by
 obtain ⟨b0, b1, b2⟩ := Cl.tb.1 hb
 refine Pure.of_ev (st := []) Tryz.func209 rfl kb ?_
 refine A1 ?_
 refine A1 ?_
 refine br ?_ ?_ <;> intro h1_4
 ·first | exact B4 rfl rfl | contradiction | (exfalso; simp_all; done)
 ·refine A1 ?_
  refine A1 ?_
  refine br ?_ ?_ <;> intro h3_4
  ·first | exact B4 rfl rfl | contradiction | (exfalso; simp_all; done)
  ·refine A1 ?_
   refine brB ?_ ?_ <;> intro h5_1
   ·refine A1 ?_
    refine brB ?_ ?_ <;> intro h5_3
    ·(apply C3 (vs := [.int _ _, .int _ _, .int _ _, .int _ _, .str _]) j2; exact Q0; rfl; rfl; exact kb; rfl)
     (apply C3 (vs := [.int _ _, .int _ _, .int _ _, .int _ _, .str _]) j2; exact Q0; rfl; rfl; exact kb; rfl)
     refine C1 (le266 s.rq b0) rfl rfl rfl ?_
     refine A1 ?_
     refine A1 ?_
     refine C1 (le267 s.rps b1) rfl rfl rfl ?_
     refine A1 ?_
     refine A1 ?_
     refine C1 (le268 s.acc b2) rfl rfl rfl ?_
     first | exact B4 rfl rfl | contradiction | (exfalso; simp_all; done)
    ·first | exact B4 rfl rfl | contradiction | (exfalso; simp_all; done)
   ·refine A1 ?_
    refine brB ?_ ?_ <;> intro h5_3
    ·first | exact B4 rfl rfl | contradiction | (exfalso; simp_all; done)
    ·(apply C3 (vs := [.int _ _, .int _ _, .int _ _, .int _ _, .str _]) j2; exact Q0; rfl; rfl; exact kb; rfl)
     (apply C3 (vs := [.int _ _, .int _ _, .int _ _, .int _ _, .str _]) j2; exact Q0; rfl; rfl; exact kb; rfl)
     refine C1 (le266 s.rq b0) rfl rfl rfl ?_
     refine A1 ?_
     refine A1 ?_
     refine C1 (le267 s.rps b1) rfl rfl rfl ?_
     refine A1 ?_
     refine A1 ?_
     refine C1 (le268 s.acc b2) rfl rfl rfl ?_
     first | exact B4 rfl rfl | contradiction | (exfalso; simp_all; done)
theorem le137 (L : List Cl) (hb : TB 1048576 (.sl false (L.map ClT))) : Pure En 137 [.one (.sl false (L.map ClT)), .one (.sl false (L.map ClT))] [.one (.bool true)] := by
 have hl : (L.map ClT).length = L.length := List.length_map ..
 obtain ⟨hm, hs⟩ := (B1 ClT Cl0).1 hb
 refine Pure.of_ev (st := []) Tryz.func137 rfl kb ?_
 refine br ?_ ?_ <;> intro h1_4
 ·first | exact B4 rfl rfl | contradiction | (exfalso; simp_all; done)
 ·refine C4 (fun (i : Nat) => [.sl false false (L.map ClT), .sl false false (L.map ClT), .unk, .unk, .unk, .int .i64 i]) (fun (i : Nat) => i ≤ L.length) (fun (i : Nat) => L.length - i) 0 ?_ ?_ ?_
  ·exact Nat.zero_le _
  ·(repeat first | exact LE.nil _ | refine LE.unk _ _ ?_ | refine LE.eq _ _ _ rfl ?_)
  intro i hI ih
  refine A6 (st := []) ?_
  refine br ?_ ?_ <;> intro h4_3
  ·(refine B9 (C5 (by first | rfl | assumption | (exact A9 ClT Cl0 (by omega))) rfl ?_))
   (refine B9 (C5 (by first | rfl | assumption | (exact A9 ClT Cl0 (by omega))) rfl ?_))
   refine C1 (le209 (L.getD i Cl0) (hs i (by omega))) rfl rfl rfl ?_
   refine C0 ?_
   exact N4 (ih (i + 1) (by omega) (by omega)) (by (repeat first | exact LE.nil _ | refine LE.unk _ _ ?_ | refine LE.eq _ _ _ rfl ?_))
  ·first | exact B4 rfl rfl | contradiction | (exfalso; simp_all; done)
theorem lz193 (s : Cr) (k : Int) (hk : 0 ≤ k ∧ k ≤ 1048576) (hb : TBs 9223372036854775807 (Cr.T s)) : ∃ x : Int, ((-1 ≤ x ∧ x ≤ k) ∧ (0 ≤ x → TBs 1048576 (Cr.T s))) ∧ Pure En 193 [.agg (Cr.T s), .one (.int .i64 k)] [.one (.int .i64 x)] := by
 have b0 := Cr.tb.1 hb
 refine Pure.of_evX (st := []) Tryz.func193 rfl kb ?_
 (apply C3 (vs := [.int _ _, .int _ _, .int _ _, .int _ _, .str _]) j2; exact Q0; rfl; rfl; exact kb; rfl)
 refine G2 (lz252 s.rq (k) (by omega) b0) rfl j2 ?_
 rintro y0 h1_3
 try dsimp only at h1_3
 refine br ?_ ?_ <;> intro h2_1
 ·first | exact ⟨-1, ⟨by omega, fun h => by omega⟩, B4 rfl rfl⟩ | exact ⟨_, ⟨by omega, fun hx => Cr.tb.2 (h1_3.2 (by omega))⟩, B4 rfl rfl⟩
 ·first | exact ⟨-1, ⟨by omega, fun h => by omega⟩, B4 rfl rfl⟩ | exact ⟨_, ⟨by omega, fun hx => Cr.tb.2 (h1_3.2 (by omega))⟩, B4 rfl rfl⟩
theorem lz127 (L : List Cr) (k : Int) (hk : 0 ≤ k ∧ k ≤ 1048576) (hb : TB 9223372036854775807 (.sl false (L.map Cr.T))) : ∃ x : Int, ((-1 ≤ x ∧ x ≤ k) ∧ (0 ≤ x → TB 1048576 (.sl false (L.map Cr.T)))) ∧ Pure En 127 [.one (.sl false (L.map Cr.T)), .one (.int .i64 k)] [.one (.int .i64 x)] := by
 have hl : (L.map Cr.T).length = L.length := List.length_map ..
 obtain ⟨hm, hs⟩ := (B1 Cr.T Cr0).1 hb
 refine Pure.of_evX (st := []) Tryz.func127 rfl kb ?_
 refine C0 ?_
 refine br ?_ ?_ <;> intro h2_1
 ·first | exact ⟨-1, ⟨by omega, fun h => by omega⟩, B4 rfl rfl⟩ | exact ⟨a1, ⟨by omega, fun _ => (B1 Cr.T Cr0).2 ⟨by omega, fun j hj => q3 j (by omega)⟩⟩, B4 rfl rfl⟩
 ·refine C4 (fun (a : Nat × Int) => [.sl false false (L.map Cr.T), .int .i64 a.2, .unk, .unk, .unk, .int .i64 a.1]) (fun (a : Nat × Int) => a.1 ≤ L.length ∧ (0 ≤ a.2 ∧ a.2 ≤ k) ∧ (L.length : Int) ≤ k ∧ ∀ j, j < a.1 → TBs 1048576 (Cr.T (L.getD j Cr0))) (fun (a : Nat × Int) => L.length - a.1) (0, k - (L.map Cr.T).length) ?_ ?_ ?_
  ·exact ⟨Nat.zero_le _, by dsimp only; omega, by omega, fun j hj => absurd hj (Nat.not_lt_zero j)⟩
  ·(repeat first | exact LE.nil _ | refine LE.unk _ _ ?_ | refine LE.eq _ _ _ rfl ?_)
  intro ⟨i, a1⟩ hI ih
  obtain ⟨q0, q1, q2, q3⟩ := hI
  dsimp only at q0 q1 q2 q3 ⊢
  refine A6 (st := []) ?_
  refine br ?_ ?_ <;> intro h5_3
  ·(refine B9 (C5 (by first | rfl | assumption | (exact A9 Cr.T Cr0 (by omega))) rfl ?_))
   refine G2 (lz193 (L.getD i Cr0) a1 (by omega) (hs i (by omega))) rfl j2 ?_
   rintro y h7_5
   try dsimp only at h7_5
   refine br ?_ ?_ <;> intro h8_1
   ·first | exact ⟨-1, ⟨by omega, fun h => by omega⟩, B4 rfl rfl⟩ | exact ⟨a1, ⟨by omega, fun _ => (B1 Cr.T Cr0).2 ⟨by omega, fun j hj => q3 j (by omega)⟩⟩, B4 rfl rfl⟩
   ·refine C0 ?_
    exact N4 (ih (i + 1, y) ⟨by dsimp only; omega, by dsimp only; omega, by omega, fun j hj => by
     by_cases e : j = i
     ·subst e; exact h7_5.2 (by omega)
     ·exact q3 j (by dsimp only at hj; omega)⟩ (by dsimp only; omega)) (by (repeat first | exact LE.nil _ | refine LE.unk _ _ ?_ | refine LE.eq _ _ _ rfl ?_))
  ·first | exact ⟨-1, ⟨by omega, fun h => by omega⟩, B4 rfl rfl⟩ | exact ⟨a1, ⟨by omega, fun _ => (B1 Cr.T Cr0).2 ⟨by omega, fun j hj => q3 j (by omega)⟩⟩, B4 rfl rfl⟩
theorem lt199 (s : Cr) (hb : TBs 1048576 (Cr.T s)) : Pure En 199 [.agg (Cr.T s)] [.agg (Cr.T s)] := by
 have b0 := Cr.tb.1 hb
 refine Pure.of_ev (st := []) Tryz.func199 rfl kb ?_
 refine A1 ?_
 (apply est (u := .int _ _) j3; exact Q0; rfl; exact j4; exact kb; rfl)
 refine A1 ?_
 (apply est (u := .int _ _) j3; exact Q0; rfl; exact j4; exact kb; rfl)
 (apply C3 (vs := [.int _ _, .int _ _, .int _ _, .int _ _, .str _]) j2; exact Q0; rfl; rfl; exact kb; rfl)
 refine C1 (lt258 s.rq b0) rfl rfl rfl ?_
 (apply est (u := .agg [.int _ _, .int _ _, .int _ _, .int _ _, .str _]) j3; exact Q0; rfl; exact j4; exact kb; rfl)
 refine A1 ?_
 (apply est (u := .int _ _) j3; exact Q0; rfl; exact j4; exact kb; rfl)
 refine A1 ?_
 (apply est (u := .int _ _) j3; exact Q0; rfl; exact j4; exact kb; rfl)
 (apply C3 (vs := [.int _ _, .int _ _, .int _ _, .int _ _]) j2; exact Q0; rfl; rfl; exact kb; rfl)
 refine C1 (lt261 s.an (An.tbt _)) rfl rfl rfl ?_
 (apply est (u := .agg [.int _ _, .int _ _, .int _ _, .int _ _]) j3; exact Q0; rfl; exact j4; exact kb; rfl)
 (apply C3 (vs := [.int _ _, .int _ _, .int _ _, .int _ _, .int _ _, .int _ _, .str _, .int _ _, .int _ _, .int _ _, .int _ _, .int _ _, .int _ _]) j2; exact Q0; rfl; rfl; exact kb; rfl)
 (apply est (u := .agg [.int _ _, .int _ _, .int _ _, .int _ _, .int _ _, .int _ _, .str _, .int _ _, .int _ _, .int _ _, .int _ _, .int _ _, .int _ _]) j3; exact Q0; rfl; exact j4; exact kb; rfl)
 refine C9 [] (A0 (A3 (xs := (Cr.T s).map (T.toV true)) rfl (by exact Q0) j2 kb rfl) A2) ?_
 exact SnapL.cons _ _ _ _ (SnapC.agg (E1 _)) SnapL.nil
theorem lt131 (L : List Cr) (hb : TB 1048576 (.sl false (L.map Cr.T))) : Pure En 131 [.one (.sl false (L.map Cr.T))] [.one (.sl false (L.map Cr.T))] := by
 have hl : (L.map Cr.T).length = L.length := List.length_map ..
 obtain ⟨hm, hs⟩ := (B1 Cr.T Cr0).1 hb
 refine Pure.of_ev (st := []) Tryz.func131 rfl kb ?_
 refine emk (s' := 112) j6 kz ?_ ?_ ?_
 ·exact Q8
 ·exact Q8
 refine B3 (fun (i : Nat) => [.sl false false (L.map Cr.T), .unk, .unk, .view 0 0 (L.map Cr.T).length, .int .i64 i]) (fun (i : Nat) => hp [(0, ⟨mkG (vT Cr.T) [.int .i64 0, .int .i64 0, .int .i64 0, .int .i64 0, .int .i64 0, .int .i64 0, .str ⟨#[]⟩, .int .i64 0, .int .i64 0, .int .i64 0, .int .i64 0, .int .i64 0, .int .i64 0] L i, 13, 167⟩)]) (fun (i : Nat) => 1) (fun (i : Nat) => i ≤ L.length) (fun (i : Nat) => L.length - i) 0 ?_ ?_ ?_ ?_ ?_
 ·exact Nat.zero_le _
 ·(repeat first | exact LE.nil _ | refine LE.unk _ _ ?_ | refine LE.eq _ _ _ rfl ?_)
 ·(repeat first | exact A5 | (refine A4 ?_ ?_; (first | exact Q0 | ((simp (disch := omega) only [↓app0, ↓appC, ↓updS, ↓updN, ↓hpS, ↓hpN]); exact congrArg (fun z => some (Blk.mk z 13 167)) (by rw [E9, ← hl]; rfl)))))
 ·exact Nat.le_refl _
 intro i hI ih
 refine A6 (st := []) ?_
 refine br ?_ ?_ <;> intro h3_3
 ·(refine B9 (C5 (by first | rfl | assumption | (exact A9 Cr.T Cr0 (by omega))) rfl ?_))
  refine C1 (lt199 (L.getD i Cr0) (hs i (by omega))) rfl rfl rfl ?_
  (refine H1 (by exact Q0) ⟨rfl, B9 ?_⟩)
  (apply est j3; exact Q0; exact H2 (vT Cr.T) [.int .i64 0, .int .i64 0, .int .i64 0, .int .i64 0, .int .i64 0, .int .i64 0, .str ⟨#[]⟩, .int .i64 0, .int .i64 0, .int .i64 0, .int .i64 0, .int .i64 0, .int .i64 0] (by omega); exact j4; exact kb; rfl)
  refine C0 ?_
  exact C6 (ih (i + 1) (by omega) (by omega)) (by (repeat first | exact LE.nil _ | refine LE.unk _ _ ?_ | refine LE.eq _ _ _ rfl ?_)) (by (repeat first | exact A5 | (refine A4 ?_ ?_; ((simp (disch := omega) only [↓app0, ↓appC, ↓updS, ↓updN, ↓hpS, ↓hpN]); exact congrArg (fun z => some (Blk.mk z 13 167)) (H3 (vT Cr.T) [.int .i64 0, .int .i64 0, .int .i64 0, .int .i64 0, .int .i64 0, .int .i64 0, .str ⟨#[]⟩, .int .i64 0, .int .i64 0, .int .i64 0, .int .i64 0, .int .i64 0, .int .i64 0] Cr0 (by omega)))))) (Nat.le_refl _)
 ·obtain rfl : i = L.length := by omega
  refine C9 [0] rfl ?_
  exact SnapL.cons _ _ _ _ (.one _ _ (F2 (sz := 13) (ty := 167) (by simp) (by (simp (disch := omega) only [↓app0, ↓appC, ↓updS, ↓updN, ↓hpS, ↓hpN]); exact congrArg (fun z => some (Blk.mk z 13 167)) (F0 (vT Cr.T) [.int .i64 0, .int .i64 0, .int .i64 0, .int .i64 0, .int .i64 0, .int .i64 0, .str ⟨#[]⟩, .int .i64 0, .int .i64 0, .int .i64 0, .int .i64 0, .int .i64 0, .int .i64 0] L)) hl)) SnapL.nil
theorem le210 (s : Cr) (hb : TBs 1048576 (Cr.T s)) : Pure En 210 [.agg (Cr.T s), .agg (Cr.T s)] [.one (.bool true)] := by
 have b0 := Cr.tb.1 hb
 refine Pure.of_ev (st := []) Tryz.func210 rfl kb ?_
 refine A1 ?_
 refine A1 ?_
 refine br ?_ ?_ <;> intro h1_4
 ·first | exact B4 rfl rfl | contradiction | (exfalso; simp_all; done)
 ·refine A1 ?_
  refine A1 ?_
  refine br ?_ ?_ <;> intro h3_4
  ·first | exact B4 rfl rfl | contradiction | (exfalso; simp_all; done)
  ·(apply C3 (vs := [.int _ _, .int _ _, .int _ _, .int _ _, .str _]) j2; exact Q0; rfl; rfl; exact kb; rfl)
   (apply C3 (vs := [.int _ _, .int _ _, .int _ _, .int _ _, .str _]) j2; exact Q0; rfl; rfl; exact kb; rfl)
   refine C1 (le266 s.rq b0) rfl rfl rfl ?_
   refine A1 ?_
   refine A1 ?_
   refine br ?_ ?_ <;> intro h7_4
   ·first | exact B4 rfl rfl | contradiction | (exfalso; simp_all; done)
   ·refine A1 ?_
    refine A1 ?_
    refine br ?_ ?_ <;> intro h9_4
    ·first | exact B4 rfl rfl | contradiction | (exfalso; simp_all; done)
    ·(apply C3 (vs := [.int _ _, .int _ _, .int _ _, .int _ _]) j2; exact Q0; rfl; rfl; exact kb; rfl)
     (apply C3 (vs := [.int _ _, .int _ _, .int _ _, .int _ _]) j2; exact Q0; rfl; rfl; exact kb; rfl)
     refine C1 (le269 s.an (An.tbt _)) rfl rfl rfl ?_
     first | exact B4 rfl rfl | contradiction | (exfalso; simp_all; done)
theorem le138 (L : List Cr) (hb : TB 1048576 (.sl false (L.map Cr.T))) : Pure En 138 [.one (.sl false (L.map Cr.T)), .one (.sl false (L.map Cr.T))] [.one (.bool true)] := by
 have hl : (L.map Cr.T).length = L.length := List.length_map ..
 obtain ⟨hm, hs⟩ := (B1 Cr.T Cr0).1 hb
 refine Pure.of_ev (st := []) Tryz.func138 rfl kb ?_
 refine br ?_ ?_ <;> intro h1_4
 ·first | exact B4 rfl rfl | contradiction | (exfalso; simp_all; done)
 ·refine C4 (fun (i : Nat) => [.sl false false (L.map Cr.T), .sl false false (L.map Cr.T), .unk, .unk, .unk, .int .i64 i]) (fun (i : Nat) => i ≤ L.length) (fun (i : Nat) => L.length - i) 0 ?_ ?_ ?_
  ·exact Nat.zero_le _
  ·(repeat first | exact LE.nil _ | refine LE.unk _ _ ?_ | refine LE.eq _ _ _ rfl ?_)
  intro i hI ih
  refine A6 (st := []) ?_
  refine br ?_ ?_ <;> intro h4_3
  ·(refine B9 (C5 (by first | rfl | assumption | (exact A9 Cr.T Cr0 (by omega))) rfl ?_))
   (refine B9 (C5 (by first | rfl | assumption | (exact A9 Cr.T Cr0 (by omega))) rfl ?_))
   refine C1 (le210 (L.getD i Cr0) (hs i (by omega))) rfl rfl rfl ?_
   refine C0 ?_
   exact N4 (ih (i + 1) (by omega) (by omega)) (by (repeat first | exact LE.nil _ | refine LE.unk _ _ ?_ | refine LE.eq _ _ _ rfl ?_))
  ·first | exact B4 rfl rfl | contradiction | (exfalso; simp_all; done)
theorem lz51 (s : Wd) (k : Int) (hk : 0 ≤ k ∧ k ≤ 1048576) (hb : TBs 9223372036854775807 (Wd.T s)) : ∃ x : Int, ((-1 ≤ x ∧ x ≤ k) ∧ (0 ≤ x → TBs 1048576 (Wd.T s))) ∧ Pure En 51 [.agg (Wd.T s), .one (.int .i64 k)] [.one (.int .i64 x)] := by
 obtain ⟨b0, b1, b2⟩ := Wd.tb.1 hb
 refine Pure.of_evX (st := []) Tryz.func51 rfl kb ?_
 (apply C3 (vs := [.int _ _, _, _, _, _]) j2; exact Q0; rfl; rfl; exact kb; rfl)
 refine G2 (lz31 s.gp (k) (by omega) b0) rfl j2 ?_
 rintro y0 h1_3
 try dsimp only at h1_3
 refine br ?_ ?_ <;> intro h2_1
 ·first | exact ⟨-1, ⟨by omega, fun h => by omega⟩, B4 rfl rfl⟩ | exact ⟨_, ⟨by omega, fun hx => Wd.tb.2 ⟨h1_3.2 (by omega), h4_3.2 (by omega), h7_3.2 (by omega)⟩⟩, B4 rfl rfl⟩
 ·refine A1 ?_
  refine G2 (lz126 s.cs (y0) (by omega) b1) rfl j2 ?_
  rintro y1 h4_3
  try dsimp only at h4_3
  refine br ?_ ?_ <;> intro h5_1
  ·first | exact ⟨-1, ⟨by omega, fun h => by omega⟩, B4 rfl rfl⟩ | exact ⟨_, ⟨by omega, fun hx => Wd.tb.2 ⟨h1_3.2 (by omega), h4_3.2 (by omega), h7_3.2 (by omega)⟩⟩, B4 rfl rfl⟩
  ·refine A1 ?_
   refine G2 (lz127 s.cr (y1) (by omega) b2) rfl j2 ?_
   rintro y2 h7_3
   try dsimp only at h7_3
   refine br ?_ ?_ <;> intro h8_1
   ·first | exact ⟨-1, ⟨by omega, fun h => by omega⟩, B4 rfl rfl⟩ | exact ⟨_, ⟨by omega, fun hx => Wd.tb.2 ⟨h1_3.2 (by omega), h4_3.2 (by omega), h7_3.2 (by omega)⟩⟩, B4 rfl rfl⟩
   ·first | exact ⟨-1, ⟨by omega, fun h => by omega⟩, B4 rfl rfl⟩ | exact ⟨_, ⟨by omega, fun hx => Wd.tb.2 ⟨h1_3.2 (by omega), h4_3.2 (by omega), h7_3.2 (by omega)⟩⟩, B4 rfl rfl⟩
theorem lt53 (s : Wd) (hb : TBs 1048576 (Wd.T s)) : Pure En 53 [.agg (Wd.T s)] [.agg (Wd.T s)] := by
 obtain ⟨b0, b1, b2⟩ := Wd.tb.1 hb
 refine Pure.of_ev (st := []) Tryz.func53 rfl kb ?_
 (apply C3 (vs := [.int _ _, _, _, _, _]) j2; exact Q0; rfl; rfl; exact kb; rfl)
 refine C1 (lt33 s.gp b0) rfl rfl rfl ?_
 (apply est (u := .agg [.int _ _, _, _, _, _]) j3; exact Q0; rfl; exact j4; exact kb; rfl)
 refine A1 ?_
 refine C1 (lt130 s.cs b1) rfl rfl rfl ?_
 (apply est (u := .sl _ _ _) j3; exact Q0; rfl; exact j4; exact kb; rfl)
 refine A1 ?_
 refine C1 (lt131 s.cr b2) rfl rfl rfl ?_
 (apply est (u := .sl _ _ _) j3; exact Q0; rfl; exact j4; exact kb; rfl)
 refine A1 ?_
 (apply est (u := .int _ _) j3; exact Q0; rfl; exact j4; exact kb; rfl)
 (apply C3 (vs := [.int _ _, _, _, _, _, _, _, .int _ _]) j2; exact Q0; rfl; rfl; exact kb; rfl)
 (apply est (u := .agg [.int _ _, _, _, _, _, _, _, .int _ _]) j3; exact Q0; rfl; exact j4; exact kb; rfl)
 refine C9 [] (A0 (A3 (xs := (Wd.T s).map (T.toV true)) rfl (by exact Q0) j2 kb rfl) A2) ?_
 exact SnapL.cons _ _ _ _ (SnapC.agg (E1 _)) SnapL.nil
theorem le55 (s : Wd) (hb : TBs 1048576 (Wd.T s)) : Pure En 55 [.agg (Wd.T s), .agg (Wd.T s)] [.one (.bool true)] := by
 obtain ⟨b0, b1, b2⟩ := Wd.tb.1 hb
 refine Pure.of_ev (st := []) Tryz.func55 rfl kb ?_
 (apply C3 (vs := [.int _ _, _, _, _, _]) j2; exact Q0; rfl; rfl; exact kb; rfl)
 (apply C3 (vs := [.int _ _, _, _, _, _]) j2; exact Q0; rfl; rfl; exact kb; rfl)
 refine C1 (le35 s.gp b0) rfl rfl rfl ?_
 refine A1 ?_
 refine A1 ?_
 refine C1 (le137 s.cs b1) rfl rfl rfl ?_
 refine A1 ?_
 refine A1 ?_
 refine C1 (le138 s.cr b2) rfl rfl rfl ?_
 refine A1 ?_
 refine A1 ?_
 refine br ?_ ?_ <;> intro h7_4
 ·first | exact B4 rfl rfl | contradiction | (exfalso; simp_all; done)
 ·first | exact B4 rfl rfl | contradiction | (exfalso; simp_all; done)
open Go.V
set_option linter.unusedVariables false
set_option linter.unusedSimpArgs false
set_option maxRecDepth 20000
set_option maxHeartbeats 4000000
def slOK (n vw sq : Int) (s : Slt) : Prop := (s.bd ≠ ⟨#[]⟩ → s.bd.size ≤ 20000 ∧ bodyOK rdM n s.bd) ∧ (∀ i, i < s.pr.length → arS n 2 vw sq s.pr i) ∧ (∀ i, i < s.cm.length → arS n 3 vw sq s.cm i)
def Ct.E (c : Ct) : Prop := c.bd = ⟨#[]⟩ ∧ c.ps.length = 0
def ceOK (n vw sq : Int) (c : Ct) : Prop := ¬ c.E → ctOK mk bare rdM dgB n c ∧ c.sq = sq ∧ c.vw ≤ vw
def lgOK (n : Int) (b : ByteArray) : Prop := b.size ≤ 20000 ∧ bodyOK rdM n b
def chOK (n vw : Int) (L : List Msg) (i : Nat) : Prop := okV n (L.getD i Msg0) ∧ vw ≤ (L.getD i Msg0).vw ∧ (L.getD i Msg0).vw = (L.getD 0 Msg0).vw ∧ (0 < i → (L.getD (i - 1) Msg0).fr < (L.getD i Msg0).fr)
def Rep.hd (r : Rep) : Prop := nodes r.nd ∧ (0 ≤ r.id ∧ r.id ≤ r.nd - 1) ∧ (0 ≤ r.vw ∧ r.vw ≤ 20) ∧ r.sl.length = 8 ∧ r.cs.length = 8 ∧ r.lg.length ≤ 8 ∧ (r.ch.length : Int) ≤ r.nd
def Rep.OK (r : Rep) : Prop := r.hd ∧ (∀ i, i < r.sl.length → slOK r.nd r.vw ((i : Int) + 1) (r.sl.getD i Slt0)) ∧ (∀ i, i < r.cs.length → ceOK r.nd r.vw ((i : Int) + 1) (r.cs.getD i Ct0)) ∧ (∀ i, i < r.lg.length → lgOK r.nd (r.lg.getD i ⟨#[]⟩)) ∧ (∀ i, i < r.ch.length → chOK r.nd r.vw r.ch i)
noncomputable instance dcSl (n vw sq : Int) (s : Slt) : Decidable (slOK n vw sq s) := Classical.propDecidable _
noncomputable instance dcCE (c : Ct) : Decidable c.E := Classical.propDecidable _
noncomputable instance dcRep (r : Rep) : Decidable r.OK := Classical.propDecidable _
theorem getMapC {b : Bool} {L : List Ct} {k : Nat} (h : k < L.length) : (L.map (Ct.T b))[k]? = some ((L.getD k Ct0).T b) := A9 (Ct.T b) Ct0 h
theorem s82 (c : Ct) (b : Bool) : Pure En 82 [.agg (c.T b)] [.one (.bool (decide c.E))] := by
 have hl : (c.ps.map Msg.T).length = c.ps.length := List.length_map ..
 refine Pure.of_ev (st := []) Tryz.func82 rfl kb ?_
 refine A1 ?_ (by exact Q0) (by rfl)
 refine br ?_ ?_ <;> intro h1_2
 ·refine A1 ?_ (by exact Q0) (by rfl)
  refine br ?_ ?_ <;> intro h1_7
  ·first | (refine B7 rfl ?_; exact ⟨h1_2, by omega⟩) | (refine A7 rfl ?_; rintro ⟨q1, q2⟩; first | exact h1_2 q1 | omega)
  ·first | (refine B7 rfl ?_; exact ⟨h1_2, by omega⟩) | (refine A7 rfl ?_; rintro ⟨q1, q2⟩; first | exact h1_2 q1 | omega)
 ·first | (refine B7 rfl ?_; exact ⟨h1_2, by omega⟩) | (refine A7 rfl ?_; rintro ⟨q1, q2⟩; first | exact h1_2 q1 | omega)
theorem o81 (R : Rep) (hn : nodes R.nd) (s : Slt) (sq : Int) (hp : s.pr.length ≤ 1048576) (hc : s.cm.length ≤ 1048576) {id : Nat} {h : Heap} {n : Nat} (hid : id < n) (hh : h id = some ⟨[[.int .i64 R.id, .int .i64 R.nd, .int .i64 R.vw, .bool R.ac, .sl false false (R.sl.map Slt.T), .sl false false (R.cs.map (Ct.T false)), .sl false false (R.lg.map tT), .sl false false (R.ch.map Msg.T)]], 8, 54⟩) :
  V.Open En 81 [.ptr id 0 0, .agg [.str s.bd, .sl false false (s.pr.map Msg.T), .sl false false (s.cm.map Msg.T), .bool s.se, .bool s.dn], .int .i64 sq] h n (.bool (decide (slOK R.nd R.vw sq s))) [] (n + 1) := by
 refine V.Open.of_ev (st := []) Tryz.func81 rfl kb ?_
 refine A1 ?_ (by exact Q0) (by exact Q2)
 refine br ?_ ?_ <;> intro h1_2
 ·refine A1 ?_ (by exact Q0) (by exact Q2)
  refine br ?_ ?_ <;> intro h1_7
  ·first
   | (rw [decide_eq_true (show slOK R.nd R.vw sq s from ⟨fun q => by first | exact absurd h1_2 q | exact absurd q h1_2 | exact ⟨by omega, h1_15⟩, h3_11, h3_24⟩)]; exact fiO rfl rfl (leWr (fun j hj => absurd hj List.not_mem_nil) (fun j hj hn => by simp (disch := omega) only [↓app0, ↓appC, ↓updS, ↓updN])) (Nat.le_refl _))
   | (rw [decide_eq_false (show ¬ slOK R.nd R.vw sq s from by rintro ⟨q1, q2, q3⟩; first | exact h3_11 q2 | exact h3_24 q3 | (have := q1 h1_2; first | omega | exact h1_15 this.2))]; exact fiO rfl rfl (leWr (fun j hj => absurd hj List.not_mem_nil) (fun j hj hn => by simp (disch := omega) only [↓app0, ↓appC, ↓updS, ↓updN])) (Nat.le_refl _))
  ·refine A1 ?_ (by exact Q0) (by exact Q2)
   refine A1 ?_ (by exact Q0) (by exact Q2)
   refine B0 (s86 R.nd hn s.bd) rfl j2 ?_ ?_ <;> intro h1_15
   ·refine A1 ?_ (by exact Q0) (by exact Q2)
    refine A1 ?_ (by exact Q0) (by exact Q2)
    refine A1 ?_ (by exact Q0) (by exact Q2)
    refine B0 (s158 R.nd 2 R.vw sq s.pr false hp) rfl j2 ?_ ?_ <;> intro h3_11
    ·refine A1 ?_ (by exact Q0) (by exact Q2)
     refine A1 ?_ (by exact Q0) (by exact Q2)
     refine A1 ?_ (by exact Q0) (by exact Q2)
     refine B0 (s158 R.nd 3 R.vw sq s.cm false hc) rfl j2 ?_ ?_ <;> intro h3_24
     ·first
      | (rw [decide_eq_true (show slOK R.nd R.vw sq s from ⟨fun q => by first | exact absurd h1_2 q | exact absurd q h1_2 | exact ⟨by omega, h1_15⟩, h3_11, h3_24⟩)]; exact fiO rfl rfl (leWr (fun j hj => absurd hj List.not_mem_nil) (fun j hj hn => by simp (disch := omega) only [↓app0, ↓appC, ↓updS, ↓updN])) (Nat.le_refl _))
      | (rw [decide_eq_false (show ¬ slOK R.nd R.vw sq s from by rintro ⟨q1, q2, q3⟩; first | exact h3_11 q2 | exact h3_24 q3 | (have := q1 h1_2; first | omega | exact h1_15 this.2))]; exact fiO rfl rfl (leWr (fun j hj => absurd hj List.not_mem_nil) (fun j hj hn => by simp (disch := omega) only [↓app0, ↓appC, ↓updS, ↓updN])) (Nat.le_refl _))
     ·first
      | (rw [decide_eq_true (show slOK R.nd R.vw sq s from ⟨fun q => by first | exact absurd h1_2 q | exact absurd q h1_2 | exact ⟨by omega, h1_15⟩, h3_11, h3_24⟩)]; exact fiO rfl rfl (leWr (fun j hj => absurd hj List.not_mem_nil) (fun j hj hn => by simp (disch := omega) only [↓app0, ↓appC, ↓updS, ↓updN])) (Nat.le_refl _))
      | (rw [decide_eq_false (show ¬ slOK R.nd R.vw sq s from by rintro ⟨q1, q2, q3⟩; first | exact h3_11 q2 | exact h3_24 q3 | (have := q1 h1_2; first | omega | exact h1_15 this.2))]; exact fiO rfl rfl (leWr (fun j hj => absurd hj List.not_mem_nil) (fun j hj hn => by simp (disch := omega) only [↓app0, ↓appC, ↓updS, ↓updN])) (Nat.le_refl _))
    ·first
     | (rw [decide_eq_true (show slOK R.nd R.vw sq s from ⟨fun q => by first | exact absurd h1_2 q | exact absurd q h1_2 | exact ⟨by omega, h1_15⟩, h3_11, h3_24⟩)]; exact fiO rfl rfl (leWr (fun j hj => absurd hj List.not_mem_nil) (fun j hj hn => by simp (disch := omega) only [↓app0, ↓appC, ↓updS, ↓updN])) (Nat.le_refl _))
     | (rw [decide_eq_false (show ¬ slOK R.nd R.vw sq s from by rintro ⟨q1, q2, q3⟩; first | exact h3_11 q2 | exact h3_24 q3 | (have := q1 h1_2; first | omega | exact h1_15 this.2))]; exact fiO rfl rfl (leWr (fun j hj => absurd hj List.not_mem_nil) (fun j hj hn => by simp (disch := omega) only [↓app0, ↓appC, ↓updS, ↓updN])) (Nat.le_refl _))
   ·first
    | (rw [decide_eq_true (show slOK R.nd R.vw sq s from ⟨fun q => by first | exact absurd h1_2 q | exact absurd q h1_2 | exact ⟨by omega, h1_15⟩, h3_11, h3_24⟩)]; exact fiO rfl rfl (leWr (fun j hj => absurd hj List.not_mem_nil) (fun j hj hn => by simp (disch := omega) only [↓app0, ↓appC, ↓updS, ↓updN])) (Nat.le_refl _))
    | (rw [decide_eq_false (show ¬ slOK R.nd R.vw sq s from by rintro ⟨q1, q2, q3⟩; first | exact h3_11 q2 | exact h3_24 q3 | (have := q1 h1_2; first | omega | exact h1_15 this.2))]; exact fiO rfl rfl (leWr (fun j hj => absurd hj List.not_mem_nil) (fun j hj hn => by simp (disch := omega) only [↓app0, ↓appC, ↓updS, ↓updN])) (Nat.le_refl _))
 ·refine A1 ?_ (by exact Q0) (by exact Q2)
  refine A1 ?_ (by exact Q0) (by exact Q2)
  refine A1 ?_ (by exact Q0) (by exact Q2)
  refine B0 (s158 R.nd 2 R.vw sq s.pr false hp) rfl j2 ?_ ?_ <;> intro h3_11
  ·refine A1 ?_ (by exact Q0) (by exact Q2)
   refine A1 ?_ (by exact Q0) (by exact Q2)
   refine A1 ?_ (by exact Q0) (by exact Q2)
   refine B0 (s158 R.nd 3 R.vw sq s.cm false hc) rfl j2 ?_ ?_ <;> intro h3_24
   ·first
    | (rw [decide_eq_true (show slOK R.nd R.vw sq s from ⟨fun q => by first | exact absurd h1_2 q | exact absurd q h1_2 | exact ⟨by omega, h1_15⟩, h3_11, h3_24⟩)]; exact fiO rfl rfl (leWr (fun j hj => absurd hj List.not_mem_nil) (fun j hj hn => by simp (disch := omega) only [↓app0, ↓appC, ↓updS, ↓updN])) (Nat.le_refl _))
    | (rw [decide_eq_false (show ¬ slOK R.nd R.vw sq s from by rintro ⟨q1, q2, q3⟩; first | exact h3_11 q2 | exact h3_24 q3 | (have := q1 h1_2; first | omega | exact h1_15 this.2))]; exact fiO rfl rfl (leWr (fun j hj => absurd hj List.not_mem_nil) (fun j hj hn => by simp (disch := omega) only [↓app0, ↓appC, ↓updS, ↓updN])) (Nat.le_refl _))
   ·first
    | (rw [decide_eq_true (show slOK R.nd R.vw sq s from ⟨fun q => by first | exact absurd h1_2 q | exact absurd q h1_2 | exact ⟨by omega, h1_15⟩, h3_11, h3_24⟩)]; exact fiO rfl rfl (leWr (fun j hj => absurd hj List.not_mem_nil) (fun j hj hn => by simp (disch := omega) only [↓app0, ↓appC, ↓updS, ↓updN])) (Nat.le_refl _))
    | (rw [decide_eq_false (show ¬ slOK R.nd R.vw sq s from by rintro ⟨q1, q2, q3⟩; first | exact h3_11 q2 | exact h3_24 q3 | (have := q1 h1_2; first | omega | exact h1_15 this.2))]; exact fiO rfl rfl (leWr (fun j hj => absurd hj List.not_mem_nil) (fun j hj hn => by simp (disch := omega) only [↓app0, ↓appC, ↓updS, ↓updN])) (Nat.le_refl _))
  ·first
   | (rw [decide_eq_true (show slOK R.nd R.vw sq s from ⟨fun q => by first | exact absurd h1_2 q | exact absurd q h1_2 | exact ⟨by omega, h1_15⟩, h3_11, h3_24⟩)]; exact fiO rfl rfl (leWr (fun j hj => absurd hj List.not_mem_nil) (fun j hj hn => by simp (disch := omega) only [↓app0, ↓appC, ↓updS, ↓updN])) (Nat.le_refl _))
   | (rw [decide_eq_false (show ¬ slOK R.nd R.vw sq s from by rintro ⟨q1, q2, q3⟩; first | exact h3_11 q2 | exact h3_24 q3 | (have := q1 h1_2; first | omega | exact h1_15 this.2))]; exact fiO rfl rfl (leWr (fun j hj => absurd hj List.not_mem_nil) (fun j hj hn => by simp (disch := omega) only [↓app0, ↓appC, ↓updS, ↓updN])) (Nat.le_refl _))
theorem hce {n : Int} {c : Ct} (h : nodes n ∧ ctOK mk bare rdM dgB n c) : 0 < c.ps.length := by
 have h1 := h.2.1; have := P3 h.1; omega
theorem Rep.sm {R : Rep} (h : TBs 1048576 R.T) : R.sl.length ≤ 1048576 ∧ (∀ i, i < R.sl.length → (R.sl.getD i Slt0).pr.length ≤ 1048576) ∧ (∀ i, i < R.sl.length → (R.sl.getD i Slt0).cm.length ≤ 1048576) ∧ R.cs.length ≤ 1048576 ∧ (∀ i, i < R.cs.length → (R.cs.getD i Ct0).ps.length ≤ 1048576) ∧ R.lg.length ≤ 1048576 ∧ R.ch.length ≤ 1048576 := by
 obtain ⟨h1, h2, h3, h4⟩ := Rep.tb.1 h
 obtain ⟨a1, a2⟩ := (B1 Slt.T Slt0).1 h1
 obtain ⟨b1, b2⟩ := (B1 (Ct.T false) Ct0).1 h2
 obtain ⟨c1, _⟩ := (B1 tT ⟨#[]⟩).1 h3
 obtain ⟨d1, _⟩ := (B1 Msg.T Msg0).1 h4
 exact ⟨a1, fun i hi => ((B1 Msg.T Msg0).1 (Slt.tb.1 (a2 i hi)).2.1).1, fun i hi => ((B1 Msg.T Msg0).1 (Slt.tb.1 (a2 i hi)).2.2).1, b1, fun i hi => ((B1 Msg.T Msg0).1 (Ct.tb.1 (b2 i hi)).2).1, c1, d1⟩
theorem s29 (R : Rep) (hb : TBs 1048576 R.T) : Pure En 29 [.agg R.T] [.one (.bool (decide R.OK))] := by
 obtain ⟨hS0, hS1, hS2, hC0, hC1, hG0, hM0⟩ := Rep.sm hb
 have hl1 : (R.sl.map Slt.T).length = R.sl.length := List.length_map ..
 have hl2 : (R.cs.map (Ct.T false)).length = R.cs.length := List.length_map ..
 have hl3 : (R.lg.map tT).length = R.lg.length := List.length_map ..
 have hl4 : (R.ch.map Msg.T).length = R.ch.length := List.length_map ..
 refine Pure.of_ev (st := []) Tryz.func29 rfl kb ?_
 refine A1 ?_ (by exact Q0) (by exact Q2)
 refine B0 (p22 R.nd) rfl j2 ?_ ?_ <;> intro h1_2
 ·refine A1 ?_ (by exact Q0) (by exact Q2)
  refine A1 ?_ (by exact Q0) (by exact Q2)
  refine D3 ⟨by exact H7, by exact H7⟩ ?_
  refine B0 (L4 _ _ _) rfl j2 ?_ ?_ <;> intro h1_10
  ·refine A1 ?_ (by exact Q0) (by exact Q2)
   refine B0 (L4 _ _ _) rfl j2 ?_ ?_ <;> intro h1_16
   ·refine A1 ?_ (by exact Q0) (by exact Q2)
    refine br ?_ ?_ <;> intro h1_23
    ·refine A7 rfl ?_; rintro ⟨⟨q1, q2, q3, q4, q5, q6, q7⟩, _⟩; first | exact h1_2 q1 | exact h1_10 q2 | exact h1_16 q3 | omega
    ·refine A1 ?_ (by exact Q0) (by exact Q2)
     refine br ?_ ?_ <;> intro h1_29
     ·refine A7 rfl ?_; rintro ⟨⟨q1, q2, q3, q4, q5, q6, q7⟩, _⟩; first | exact h1_2 q1 | exact h1_10 q2 | exact h1_16 q3 | omega
     ·refine A1 ?_ (by exact Q0) (by exact Q2)
      refine br ?_ ?_ <;> intro h1_35
      ·refine A7 rfl ?_; rintro ⟨⟨q1, q2, q3, q4, q5, q6, q7⟩, _⟩; first | exact h1_2 q1 | exact h1_10 q2 | exact h1_16 q3 | omega
      ·refine A1 ?_ (by exact Q0) (by exact Q2)
       refine A1 ?_ (by exact Q0) (by exact Q2)
       refine br ?_ ?_ <;> intro h1_43
       ·refine A7 rfl ?_; rintro ⟨⟨q1, q2, q3, q4, q5, q6, q7⟩, _⟩; first | exact h1_2 q1 | exact h1_10 q2 | exact h1_16 q3 | omega
       ·refine A1 ?_ (by exact Q0) (by exact Q2)
        refine B3 (fun (a : Nat × Nat) => [.unk, .ptr 0 0 0, .unk, .unk, .unk, .unk, .unk, .unk, .unk, .unk, .unk, .unk, .unk, .unk, .unk, .unk, .unk, .unk, .unk, .unk, .unk, .unk, .unk, .unk, .unk, .unk, .unk, .unk, .unk, .unk, .unk, .unk, .unk, .unk, .unk, .unk, .unk, .unk, .unk, .unk, .unk, .unk, .unk, .unk, .unk, .unk, .unk, .unk, .unk, .unk, .unk, .unk, .unk, .unk, .unk, .unk, .unk, .unk, .unk, .sl false false (R.sl.map Slt.T), .int .i64 ((R.sl.map Slt.T).length : Int), .int .i64 a.1]) (fun (a : Nat × Nat) => hp [(0, ⟨[[.int .i64 R.id, .int .i64 R.nd, .int .i64 R.vw, .bool R.ac, .sl false false (R.sl.map Slt.T), .sl false false (R.cs.map (Ct.T false)), .sl false false (R.lg.map tT), .sl false false (R.ch.map Msg.T)]], 8, 54⟩)]) (fun (a : Nat × Nat) => a.2) (fun (a : Nat × Nat) => a.1 ≤ R.sl.length ∧ 1 ≤ a.2 ∧ ∀ j, j < a.1 → slOK R.nd R.vw ((j : Int) + 1) (R.sl.getD j Slt0)) (fun (a : Nat × Nat) => R.sl.length - a.1) (0, 1) ?_ ?_ ?_ ?_ ?_
        ·exact ⟨Nat.zero_le _, Nat.le_refl _, E6⟩
        ·(repeat first | exact LE.nil _ | refine LE.unk _ _ ?_ | refine LE.eq _ _ _ rfl ?_)
        ·(repeat first | exact A5 | (refine A4 ?_ ?_; exact H8))
        ·exact Nat.le_refl _
        intro ⟨i, m⟩ hI ih
        obtain ⟨u0, u1, u2⟩ := hI
        dsimp only at u0 u1 u2 ⊢
        refine A6 (st := []) ?_
        refine br ?_ ?_ <;> intro h4_0
        ·(refine B9 (C5 (by first | rfl | assumption | exact Q19) rfl ?_))
         (apply est (u := .agg [.str _, _, _, .bool _, .bool _]) j3; exact Q0; exact Q2; exact j4; exact kb; rfl)
         (apply C3 (vs := [.str _, _, _, .bool _, .bool _]) j2; exact Q0; exact Q2; rfl; exact kb; rfl)
         refine D3 ⟨by exact H7, by exact H7⟩ ?_
         refine N2 (o81 R h1_2 (R.sl.getD i Slt0) ((i : Int) + 1) (hS1 i (by omega)) (hS2 i (by omega)) ?_ ?_) rfl j2 ?_ ?_
         ·exact G4
         ·exact G4
         all_goals intro h6_3
         ·refine D3 ⟨by exact H7, by exact H7⟩ ?_
          exact C6 (ih (i + 1, m + 1 + 1) ⟨by dsimp only; omega, by dsimp only; omega, C8 u2 (of_decide_eq_true h6_3)⟩ (by dsimp only; omega)) (by (repeat first | exact LE.nil _ | refine LE.unk _ _ ?_ | refine LE.eq _ _ _ rfl ?_)) (by (repeat first | exact A5 | (refine A4 ?_ ?_; exact H8))) (Nat.le_refl _)
         ·refine A7 rfl ?_; rintro ⟨_, q2, _⟩; exact of_decide_eq_false h6_3 (q2 i (by omega))
        ·refine A1 ?_ (by exact Q0) (by exact Q2)
         refine B3 (fun (a : Nat × Nat) => [.unk, .ptr 0 0 0, .unk, .unk, .unk, .unk, .unk, .unk, .unk, .unk, .unk, .unk, .unk, .unk, .unk, .unk, .unk, .unk, .unk, .unk, .unk, .unk, .unk, .unk, .unk, .unk, .unk, .unk, .unk, .unk, .unk, .unk, .unk, .unk, .unk, .unk, .unk, .unk, .unk, .unk, .unk, .unk, .unk, .unk, .unk, .unk, .unk, .unk, .unk, .unk, .unk, .unk, .unk, .unk, .unk, .unk, .unk, .unk, .unk, .unk, .unk, .unk, .unk, .unk, .unk, .unk, .unk, .unk, .unk, .unk, .unk, .unk, .unk, .sl false false (R.cs.map (Ct.T false)), .int .i64 ((R.cs.map (Ct.T false)).length : Int), .int .i64 a.1]) (fun (a : Nat × Nat) => hp [(0, ⟨[[.int .i64 R.id, .int .i64 R.nd, .int .i64 R.vw, .bool R.ac, .sl false false (R.sl.map Slt.T), .sl false false (R.cs.map (Ct.T false)), .sl false false (R.lg.map tT), .sl false false (R.ch.map Msg.T)]], 8, 54⟩)]) (fun (a : Nat × Nat) => a.2) (fun (a : Nat × Nat) => a.1 ≤ R.cs.length ∧ 1 ≤ a.2 ∧ ∀ j, j < a.1 → ceOK R.nd R.vw ((j : Int) + 1) (R.cs.getD j Ct0)) (fun (a : Nat × Nat) => R.cs.length - a.1) (0, m) ?_ ?_ ?_ ?_ ?_
         ·exact ⟨Nat.zero_le _, u1, E6⟩
         ·(repeat first | exact LE.nil _ | refine LE.unk _ _ ?_ | refine LE.eq _ _ _ rfl ?_)
         ·(repeat first | exact A5 | (refine A4 ?_ ?_; exact H8))
         ·exact Nat.le_refl _
         intro ⟨i2, m2⟩ hI ih
         obtain ⟨v0, v1, v2⟩ := hI
         dsimp only at v0 v1 v2 ⊢
         refine A6 (st := []) ?_
         refine br ?_ ?_ <;> intro h10_0
         ·(refine B9 (C5 (by first | rfl | assumption | exact Q19) rfl ?_))
          (apply est (u := .agg [.str _, _]) j3; exact Q0; exact Q2; exact j4; exact kb; rfl)
          (apply C3 (vs := [.str _, _]) j2; exact Q0; exact Q2; rfl; exact kb; rfl)
          refine B0 (s82 (R.cs.getD i2 Ct0) false) rfl j2 ?_ ?_ <;> intro h12_1
          ·refine D3 ⟨by exact H7, by exact H7⟩ ?_
           exact C6 (ih (i2 + 1, m2 + 1) ⟨by dsimp only; omega, by dsimp only; omega, C8 v2 (fun q => by first | exact absurd h12_1 q | exact ⟨h12_7.2, by omega, by omega⟩)⟩ (by dsimp only; omega)) (by (repeat first | exact LE.nil _ | refine LE.unk _ _ ?_ | refine LE.eq _ _ _ rfl ?_)) (by (repeat first | exact A5 | (refine A4 ?_ ?_; exact H8))) (Nat.le_refl _)
          ·refine A1 ?_ (by exact Q0) (by exact Q2)
           (apply C3 (vs := [.str _, _]) j2; exact Q0; exact Q2; rfl; exact kb; rfl)
           refine B0 (s83 R.nd (R.cs.getD i2 Ct0) false) rfl j2 ?_ ?_ <;> intro h12_7
           ·(apply C3 (vs := [.str _, _]) j2; exact Q0; exact Q2; rfl; exact kb; rfl)
            refine C1 (s84 (R.cs.getD i2 Ct0) false (hce h12_7)) rfl rfl rfl ?_
            refine D3 ⟨by exact H7, by exact H7⟩ ?_
            refine br ?_ ?_ <;> intro h12_14
            ·refine A7 rfl ?_; rintro ⟨_, _, q3, _⟩; obtain ⟨e1, e2, e3⟩ := q3 i2 (by omega) h12_1; first | exact h12_7 ⟨h1_2, e1⟩ | omega
            ·(apply C3 (vs := [.str _, _]) j2; exact Q0; exact Q2; rfl; exact kb; rfl)
             refine C1 (s85 (R.cs.getD i2 Ct0) false (hce h12_7)) rfl rfl rfl ?_
             refine A1 ?_ (by exact Q0) (by exact Q2)
             refine br ?_ ?_ <;> intro h12_21
             ·refine A7 rfl ?_; rintro ⟨_, _, q3, _⟩; obtain ⟨e1, e2, e3⟩ := q3 i2 (by omega) h12_1; first | exact h12_7 ⟨h1_2, e1⟩ | omega
             ·refine D3 ⟨by exact H7, by exact H7⟩ ?_
              exact C6 (ih (i2 + 1, m2 + 1) ⟨by dsimp only; omega, by dsimp only; omega, C8 v2 (fun q => by first | exact absurd h12_1 q | exact ⟨h12_7.2, by omega, by omega⟩)⟩ (by dsimp only; omega)) (by (repeat first | exact LE.nil _ | refine LE.unk _ _ ?_ | refine LE.eq _ _ _ rfl ?_)) (by (repeat first | exact A5 | (refine A4 ?_ ?_; exact H8))) (Nat.le_refl _)
           ·refine A7 rfl ?_; rintro ⟨_, _, q3, _⟩; obtain ⟨e1, e2, e3⟩ := q3 i2 (by omega) h12_1; first | exact h12_7 ⟨h1_2, e1⟩ | omega
         ·refine A1 ?_ (by exact Q0) (by exact Q2)
          refine B3 (fun (a : Nat) => [.unk, .ptr 0 0 0, .unk, .unk, .unk, .unk, .unk, .unk, .unk, .unk, .unk, .unk, .unk, .unk, .unk, .unk, .unk, .unk, .unk, .unk, .unk, .unk, .unk, .unk, .unk, .unk, .unk, .unk, .unk, .unk, .unk, .unk, .unk, .unk, .unk, .unk, .unk, .unk, .unk, .unk, .unk, .unk, .unk, .unk, .unk, .unk, .unk, .unk, .unk, .unk, .unk, .unk, .unk, .unk, .unk, .unk, .unk, .unk, .unk, .unk, .unk, .unk, .unk, .unk, .unk, .unk, .unk, .unk, .unk, .unk, .unk, .unk, .unk, .unk, .unk, .unk, .unk, .unk, .unk, .unk, .unk, .unk, .unk, .unk, .unk, .unk, .unk, .unk, .unk, .unk, .unk, .unk, .unk, .unk, .unk, .unk, .unk, .unk, .unk, .unk, .unk, .unk, .unk, .unk, .unk, .unk, .sl false false (R.lg.map tT), .int .i64 ((R.lg.map tT).length : Int), .int .i64 a]) (fun (a : Nat) => hp [(0, ⟨[[.int .i64 R.id, .int .i64 R.nd, .int .i64 R.vw, .bool R.ac, .sl false false (R.sl.map Slt.T), .sl false false (R.cs.map (Ct.T false)), .sl false false (R.lg.map tT), .sl false false (R.ch.map Msg.T)]], 8, 54⟩)]) (fun (a : Nat) => m2) (fun (a : Nat) => a ≤ R.lg.length ∧ ∀ j, j < a → lgOK R.nd (R.lg.getD j ⟨#[]⟩)) (fun (a : Nat) => R.lg.length - a) 0 ?_ ?_ ?_ ?_ ?_
          ·exact ⟨Nat.zero_le _, E6⟩
          ·(repeat first | exact LE.nil _ | refine LE.unk _ _ ?_ | refine LE.eq _ _ _ rfl ?_)
          ·(repeat first | exact A5 | (refine A4 ?_ ?_; exact H8))
          ·exact Nat.le_refl _
          intro i3 hI ih
          obtain ⟨w0, w2⟩ := hI
          have hzz : (R.lg.getD ((i3 : Int)).toNat (⟨#[]⟩ : ByteArray)).size = (R.lg.getD i3 (⟨#[]⟩ : ByteArray)).size := rfl
          refine A6 (st := []) ?_
          refine br ?_ ?_ <;> intro h16_0
          ·(refine B9 (C5 (by first | rfl | assumption | exact Q19) rfl ?_))
           refine br ?_ ?_ <;> intro h18_2
           ·refine A7 rfl ?_; rintro ⟨_, _, _, q4, _⟩; obtain ⟨e1, e2⟩ := q4 i3 (by omega); first | omega | exact h18_7 e2
           ·refine A1 ?_ (by exact Q0) (by exact Q2)
            refine B0 (s86 R.nd h1_2 (R.lg.getD i3 ⟨#[]⟩)) rfl j2 ?_ ?_ <;> intro h18_7
            ·refine D3 ⟨by exact H7, by exact H7⟩ ?_
             exact C6 (ih (i3 + 1) ⟨by omega, C8 w2 ⟨by omega, h18_7⟩⟩ (by omega)) (by (repeat first | exact LE.nil _ | refine LE.unk _ _ ?_ | refine LE.eq _ _ _ rfl ?_)) (by (repeat first | exact A5 | (refine A4 ?_ ?_; exact H8))) (Nat.le_refl _)
            ·refine A7 rfl ?_; rintro ⟨_, _, _, q4, _⟩; obtain ⟨e1, e2⟩ := q4 i3 (by omega); first | omega | exact h18_7 e2
          ·refine A1 ?_ (by exact Q0) (by exact Q2)
           refine B3 (fun (a : Nat × Nat) => [.unk, .ptr 0 0 0, .unk, .unk, .unk, .unk, .unk, .unk, .unk, .unk, .unk, .unk, .unk, .unk, .unk, .unk, .unk, .unk, .unk, .unk, .unk, .unk, .unk, .unk, .unk, .unk, .unk, .unk, .unk, .unk, .unk, .unk, .unk, .unk, .unk, .unk, .unk, .unk, .unk, .unk, .unk, .unk, .unk, .unk, .unk, .unk, .unk, .unk, .unk, .unk, .unk, .unk, .unk, .unk, .unk, .unk, .unk, .unk, .unk, .unk, .unk, .unk, .unk, .unk, .unk, .unk, .unk, .unk, .unk, .unk, .unk, .unk, .unk, .unk, .unk, .unk, .unk, .unk, .unk, .unk, .unk, .unk, .unk, .unk, .unk, .unk, .unk, .unk, .unk, .unk, .unk, .unk, .unk, .unk, .unk, .unk, .unk, .unk, .unk, .unk, .unk, .unk, .unk, .unk, .unk, .unk, .unk, .unk, .unk, .unk, .unk, .unk, .unk, .unk, .unk, .unk, .unk, .unk, .unk, .unk, .unk, .unk, .unk, .unk, .sl false false (R.ch.map Msg.T), .int .i64 ((R.ch.map Msg.T).length : Int), .int .i64 a.1]) (fun (a : Nat × Nat) => hp [(0, ⟨[[.int .i64 R.id, .int .i64 R.nd, .int .i64 R.vw, .bool R.ac, .sl false false (R.sl.map Slt.T), .sl false false (R.cs.map (Ct.T false)), .sl false false (R.lg.map tT), .sl false false (R.ch.map Msg.T)]], 8, 54⟩)]) (fun (a : Nat × Nat) => a.2) (fun (a : Nat × Nat) => a.1 ≤ R.ch.length ∧ 1 ≤ a.2 ∧ ∀ j, j < a.1 → chOK R.nd R.vw R.ch j) (fun (a : Nat × Nat) => R.ch.length - a.1) (0, m2) ?_ ?_ ?_ ?_ ?_
           ·exact ⟨Nat.zero_le _, v1, E6⟩
           ·(repeat first | exact LE.nil _ | refine LE.unk _ _ ?_ | refine LE.eq _ _ _ rfl ?_)
           ·(repeat first | exact A5 | (refine A4 ?_ ?_; exact H8))
           ·exact Nat.le_refl _
           intro ⟨i4, m4⟩ hI ih
           obtain ⟨x0, x1, x2⟩ := hI
           dsimp only at x0 x1 x2 ⊢
           refine A6 (st := []) ?_
           refine br ?_ ?_ <;> intro h22_0
           ·(refine B9 (C5 (by first | rfl | assumption | exact Q19) rfl ?_))
            (apply est (u := .agg [.int _ _, .int _ _, .int _ _, .int _ _, .str _, .str _, .str _]) j3; exact Q0; exact Q2; exact j4; exact kb; rfl)
            refine A1 ?_ (by exact Q0) (by exact Q2)
            (apply C3 (vs := [.int _ _, .int _ _, .int _ _, .int _ _, .str _, .str _, .str _]) j2; exact Q0; exact Q2; rfl; exact kb; rfl)
            refine C1 (s70 R.nd (R.ch.getD i4 Msg0)) rfl rfl rfl ?_
            refine brB ?_ ?_ <;> intro h24_6
            ·refine A1 ?_ (by exact Q0) (by exact Q2)
             refine A1 ?_ (by exact Q0) (by exact Q2)
             refine br ?_ ?_ <;> intro h25_7
             ·refine A7 rfl ?_; rintro ⟨_, _, _, _, q5⟩; obtain ⟨e1, e2, e3, e4⟩ := q5 i4 (by omega); first | exact of_decide_eq_false h24_6 e1 | omega | (have := e4 (by omega); omega)
             ·refine A1 ?_ (by exact Q0) (by exact Q2)
              refine A1 ?_ (by exact Q0) (by exact Q2)
              (refine B9 (C5 (by first | rfl | assumption | exact Q19) rfl ?_))
              refine br ?_ ?_ <;> intro h25_17
              ·refine A7 rfl ?_; rintro ⟨_, _, _, _, q5⟩; obtain ⟨e1, e2, e3, e4⟩ := q5 i4 (by omega); first | exact of_decide_eq_false h24_6 e1 | omega | (have := e4 (by omega); omega)
              ·refine br ?_ ?_ <;> intro h25_21
               ·refine A1 ?_ (by exact Q0) (by exact Q2)
                refine D3 ⟨by exact H7, by exact H7⟩ ?_
                (refine B9 (C5 (by first | rfl | assumption | exact Q19) rfl ?_))
                refine A1 ?_ (by exact Q0) (by exact Q2)
                refine br ?_ ?_ <;> intro h25_32
                ·refine A7 rfl ?_; rintro ⟨_, _, _, _, q5⟩; obtain ⟨e1, e2, e3, e4⟩ := q5 i4 (by omega); first | exact of_decide_eq_false h24_6 e1 | omega | (have := e4 (by omega); omega)
                ·refine D3 ⟨by exact H7, by exact H7⟩ ?_
                 exact C6 (ih (i4 + 1, m4 + 1) ⟨by dsimp only; omega, by dsimp only; omega, C8 x2 ⟨of_decide_eq_true h24_6, by omega, by omega, fun _ => by omega⟩⟩ (by dsimp only; omega)) (by (repeat first | exact LE.nil _ | refine LE.unk _ _ ?_ | refine LE.eq _ _ _ rfl ?_)) (by (repeat first | exact A5 | (refine A4 ?_ ?_; exact H8))) (Nat.le_refl _)
               ·refine D3 ⟨by exact H7, by exact H7⟩ ?_
                exact C6 (ih (i4 + 1, m4 + 1) ⟨by dsimp only; omega, by dsimp only; omega, C8 x2 ⟨of_decide_eq_true h24_6, by omega, by omega, fun _ => by omega⟩⟩ (by dsimp only; omega)) (by (repeat first | exact LE.nil _ | refine LE.unk _ _ ?_ | refine LE.eq _ _ _ rfl ?_)) (by (repeat first | exact A5 | (refine A4 ?_ ?_; exact H8))) (Nat.le_refl _)
            ·refine A7 rfl ?_; rintro ⟨_, _, _, _, q5⟩; obtain ⟨e1, e2, e3, e4⟩ := q5 i4 (by omega); first | exact of_decide_eq_false h24_6 e1 | omega | (have := e4 (by omega); omega)
           ·refine B7 rfl ?_; exact ⟨⟨h1_2, h1_10, h1_16, by omega, by omega, by omega, by omega⟩, fun j hj => u2 j (by omega), fun j hj => v2 j (by omega), fun j hj => w2 j (by omega), fun j hj => x2 j (by omega)⟩
   ·refine A7 rfl ?_; rintro ⟨⟨q1, q2, q3, q4, q5, q6, q7⟩, _⟩; first | exact h1_2 q1 | exact h1_10 q2 | exact h1_16 q3 | omega
  ·refine A7 rfl ?_; rintro ⟨⟨q1, q2, q3, q4, q5, q6, q7⟩, _⟩; first | exact h1_2 q1 | exact h1_10 q2 | exact h1_16 q3 | omega
 ·refine A7 rfl ?_; rintro ⟨⟨q1, q2, q3, q4, q5, q6, q7⟩, _⟩; first | exact h1_2 q1 | exact h1_10 q2 | exact h1_16 q3 | omega
open Go.V
set_option linter.unusedVariables false
set_option linter.unusedSimpArgs false
set_option maxRecDepth 20000
set_option maxHeartbeats 4000000
def fyOK (n : Int) (F : List Int) : Prop := (F.length : Int) ≤ (n - 1) / 3 ∧ ∀ i, i < F.length → (0 ≤ F.getD i 0 ∧ F.getD i 0 ≤ n - 1) ∧ (0 < i → F.getD (i - 1) 0 < F.getD i 0)
def rsOK (n : Int) (L : List Rep) (i : Nat) : Prop := (L.getD i Rep0).id = (i : Int) ∧ (L.getD i Rep0).nd = n ∧ (L.getD i Rep0).OK
def pcOK (n : Int) (p : Pc) : Prop := (0 ≤ p.to ∧ p.to ≤ n - 1) ∧ sgd mk bare n p.ms
def sgM (n : Int) (m : Msg) : Prop := sgd mk bare n m
def Grp.hd (g : Grp) : Prop := nodes g.nd ∧ fyOK g.nd g.fa ∧ (g.rs.length : Int) = g.nd ∧ g.wi.length ≤ 400 ∧ g.se.length ≤ 4096
def Grp.OK (g : Grp) : Prop := g.hd ∧ (∀ i, i < g.rs.length → rsOK g.nd g.rs i) ∧ (∀ i, i < g.wi.length → pcOK g.nd (g.wi.getD i Pc0)) ∧ (∀ i, i < g.se.length → sgM g.nd (g.se.getD i Msg0))
def riOK (lo hi : Int) (F : List Int) (i : Nat) : Prop := (lo ≤ F.getD i 0 ∧ F.getD i 0 ≤ hi) ∧ (0 < i → F.getD (i - 1) 0 < F.getD i 0)
noncomputable instance dcRi (lo hi : Int) (F : List Int) : Decidable (∀ i, i < F.length → riOK lo hi F i) := Classical.propDecidable _
noncomputable instance dcFy (n : Int) (F : List Int) : Decidable (nodes n ∧ fyOK n F) := Classical.propDecidable _
noncomputable instance dcFz (n : Int) (F : List Int) : Decidable (fyOK n F) := Classical.propDecidable _
noncomputable instance dcGrp (g : Grp) : Decidable g.OK := Classical.propDecidable _
def anyP {α : Type} (P : α → Prop) (L : List α) : Prop := ∃ x ∈ L, P x
noncomputable instance dcAny {α : Type} (P : α → Prop) (L : List α) : Decidable (anyP P L) := Classical.propDecidable _
def nS (n : Int) (m : Msg) : Prop := ¬ (nodes n ∧ sgd mk bare n m)
noncomputable instance dcNs (n : Int) (m : Msg) : Decidable (nS n m) := Classical.propDecidable _
theorem s139 (n : Int) : Pure En 139 [.one (.int .i64 n)] [.one (.int .i64 (if nodes n then (n - 1) / 3 else 0)), .one (.int .i64 (if nodes n then 0 else 4))] := by
 by_cases hn : nodes n
 ·rw [if_pos hn, if_pos hn]
  rcases hn with rfl | rfl | rfl
  all_goals
   refine Pure.of_ev (st := []) Tryz.func139 rfl kb ?_
   refine br ?_ ?_ <;> intro h1_1
   ·refine br ?_ ?_ <;> intro h1_4
    ·refine br ?_ ?_ <;> intro h1_8
     ·first | exact B4 rfl rfl | (exfalso; omega)
     ·refine D3 ⟨by (first | omega | decide | (rcases hn with e | e | e <;> omega)), by (first | omega | decide | (rcases hn with e | e | e <;> omega))⟩ ?_
      refine sd (by (first | omega | decide | (rcases hn with e | e | e <;> omega))) ?_
      first | exact B4 rfl rfl | (exfalso; omega)
    ·refine D3 ⟨by (first | omega | decide | (rcases hn with e | e | e <;> omega)), by (first | omega | decide | (rcases hn with e | e | e <;> omega))⟩ ?_
     refine sd (by (first | omega | decide | (rcases hn with e | e | e <;> omega))) ?_
     first | exact B4 rfl rfl | (exfalso; omega)
   ·refine D3 ⟨by (first | omega | decide | (rcases hn with e | e | e <;> omega)), by (first | omega | decide | (rcases hn with e | e | e <;> omega))⟩ ?_
    refine sd (by (first | omega | decide | (rcases hn with e | e | e <;> omega))) ?_
    first | exact B4 rfl rfl | (exfalso; omega)
 ·rw [if_neg hn, if_neg hn]
  unfold nodes at hn
  refine Pure.of_ev (st := []) Tryz.func139 rfl kb ?_
  refine br ?_ ?_ <;> intro h1_1
  ·refine br ?_ ?_ <;> intro h1_4
   ·refine br ?_ ?_ <;> intro h1_8
    ·first | exact B4 rfl rfl | (exfalso; omega)
    ·refine C0 ?_
     refine B9 ?_
     first | exact B4 rfl rfl | (exfalso; omega)
   ·refine C0 ?_
    refine B9 ?_
    first | exact B4 rfl rfl | (exfalso; omega)
  ·refine C0 ?_
   refine B9 ?_
   first | exact B4 rfl rfl | (exfalso; omega)
theorem s169 (lo hi : Int) (F : List Int) (b : Bool) (hF : F.length ≤ 1048576) : Pure En 169 [.one (.sl b (F.map iT)), .one (.int .i64 lo), .one (.int .i64 hi)] [.one (.bool (decide (∀ i, i < F.length → riOK lo hi F i)))] := by
 have hl : (F.map iT).length = F.length := List.length_map ..
 refine Pure.of_ev (st := []) Tryz.func169 rfl kb ?_
 refine C4 (fun (i : Nat) => [.sl false b (F.map iT), .int .i64 lo, .int .i64 hi, .unk, .unk, .unk, .unk, .unk, .unk, .sl false b (F.map iT), .int .i64 ((F.map iT).length : Int), .int .i64 i]) (fun (i : Nat) => i ≤ F.length ∧ ∀ j, j < i → riOK lo hi F j) (fun (i : Nat) => F.length - i) 0 ?_ ?_ ?_
 ·exact ⟨Nat.zero_le _, E6⟩
 ·(repeat first | exact LE.nil _ | refine LE.unk _ _ ?_ | refine LE.eq _ _ _ rfl ?_)
 intro i hI ih
 obtain ⟨u0, u2⟩ := hI
 refine A6 (st := []) ?_
 refine br ?_ ?_ <;> intro h2_0
 ·(refine B9 (C5 (by first | rfl | assumption | exact Q20) rfl ?_))
  refine B0 (L4 _ _ _) rfl j2 ?_ ?_ <;> intro h4_3
  ·refine br ?_ ?_ <;> intro h4_7
   ·refine C0 ?_
    (refine B9 (C5 (by first | rfl | assumption | exact Q20) rfl ?_))
    refine br ?_ ?_ <;> intro h4_15
    ·refine A7 rfl ?_; intro q; obtain ⟨e1, e2⟩ := q i (by omega); first | exact h4_3 e1 | (have := e2 (by omega); omega)
    ·refine C0 ?_
     exact N4 (ih (i + 1) ⟨by omega, C8 u2 ⟨h4_3, fun _ => by omega⟩⟩ (by omega)) (by (repeat first | exact LE.nil _ | refine LE.unk _ _ ?_ | refine LE.eq _ _ _ rfl ?_))
   ·refine C0 ?_
    exact N4 (ih (i + 1) ⟨by omega, C8 u2 ⟨h4_3, fun _ => by omega⟩⟩ (by omega)) (by (repeat first | exact LE.nil _ | refine LE.unk _ _ ?_ | refine LE.eq _ _ _ rfl ?_))
  ·refine A7 rfl ?_; intro q; obtain ⟨e1, e2⟩ := q i (by omega); first | exact h4_3 e1 | (have := e2 (by omega); omega)
 ·refine B7 rfl ?_; exact fun j hj => u2 j (by omega)
theorem s97 (n : Int) (F : List Int) (b : Bool) (hF : F.length ≤ 1048576) : Pure En 97 [.one (.int .i64 n), .one (.sl b (F.map iT))] [.one (.bool (decide (nodes n ∧ fyOK n F)))] := by
 have hl : (F.map iT).length = F.length := List.length_map ..
 by_cases hn2 : nodes n
 ·have s139 : ∀ _ : Int, Pure En 139 [.one (.int .i64 n)] [.one (.int .i64 ((n - 1) / 3)), .one (.int .i64 0)] := fun _ => by have := s139 n; rwa [if_pos hn2, if_pos hn2] at this
  refine Pure.of_ev (st := []) Tryz.func97 rfl kb ?_
  refine C1 (s139 n) rfl rfl rfl ?_
  refine br ?_ (fun h => absurd (rfl) h)
  intro h2_1
  refine br ?_ ?_ <;> intro h2_6
  ·refine D3 ⟨by (first | omega | assumption | (rcases hn2 with e | e | e <;> omega)), by (first | omega | assumption | (rcases hn2 with e | e | e <;> omega))⟩ ?_
   refine B0 (s169 0 (n - 1) F b hF) rfl j2 ?_ ?_ <;> intro h2_12
   ·first | (refine B7 rfl ?_; exact ⟨hn2, by omega, h2_12⟩) | (refine A7 rfl ?_; rintro ⟨q1, q2, q3⟩; first | exact h2_12 q3 | omega)
   ·first | (refine B7 rfl ?_; exact ⟨hn2, by omega, h2_12⟩) | (refine A7 rfl ?_; rintro ⟨q1, q2, q3⟩; first | exact h2_12 q3 | omega)
  ·first | (refine B7 rfl ?_; exact ⟨hn2, by omega, h2_12⟩) | (refine A7 rfl ?_; rintro ⟨q1, q2, q3⟩; first | exact h2_12 q3 | omega)
 ·have s139 : ∀ _ : Int, Pure En 139 [.one (.int .i64 n)] [.one (.int .i64 0), .one (.int .i64 4)] := fun _ => by have := s139 n; rwa [if_neg hn2, if_neg hn2] at this
  refine Pure.of_ev (st := []) Tryz.func97 rfl kb ?_
  refine C1 (s139 n) rfl rfl rfl ?_
  refine br (fun h => absurd h ((by decide))) ?_
  intro h2_1
  refine A7 rfl ?_; exact fun q => hn2 q.1
theorem o99 (G : Grp) (m : Msg) {id : Nat} {h : Heap} {n : Nat} (hid : id < n) (hh : h id = some ⟨[[.int .i64 G.nd, .sl false false (G.fa.map iT), .sl false false (G.rs.map Rep.T), .sl false false (G.wi.map Pc.T), .sl false false (G.se.map Msg.T)]], 5, 67⟩) : V.Open En 99 [.agg m.V, .ptr id 0 0] h n (.bool (decide (nS G.nd m))) [] (n + 1) := by
 refine V.Open.of_ev (st := []) Tryz.func99 rfl kb ?_
 refine A1 ?_ (by exact Q0) (by exact Q2)
 (apply C3 (vs := [.int _ _, .int _ _, .int _ _, .int _ _, .str _, .str _, .str _]) j2; exact Q0; exact Q2; rfl; exact kb; rfl)
 refine B0 (s55 G.nd m) rfl j2 ?_ ?_ <;> intro h1_3
 ·first
  | (rw [decide_eq_false (show ¬ nS G.nd m from fun q => q h1_3)]; exact fiO rfl rfl (leWr (fun j hj => absurd hj List.not_mem_nil) (fun j hj hn => by simp (disch := omega) only [↓app0, ↓appC, ↓updS, ↓updN])) (Nat.le_refl _))
  | (rw [decide_eq_true (show nS G.nd m from h1_3)]; exact fiO rfl rfl (leWr (fun j hj => absurd hj List.not_mem_nil) (fun j hj hn => by simp (disch := omega) only [↓app0, ↓appC, ↓updS, ↓updN])) (Nat.le_refl _))
 ·first
  | (rw [decide_eq_false (show ¬ nS G.nd m from fun q => q h1_3)]; exact fiO rfl rfl (leWr (fun j hj => absurd hj List.not_mem_nil) (fun j hj hn => by simp (disch := omega) only [↓app0, ↓appC, ↓updS, ↓updN])) (Nat.le_refl _))
  | (rw [decide_eq_true (show nS G.nd m from h1_3)]; exact fiO rfl rfl (leWr (fun j hj => absurd hj List.not_mem_nil) (fun j hj hn => by simp (disch := omega) only [↓app0, ↓appC, ↓updS, ↓updN])) (Nat.le_refl _))
theorem o170g (fr b : Bool) (L : List Msg) (G : Grp) {id : Nat} {h : Heap} {n : Nat} (hid : id < n) (hh : h id = some ⟨[[.int .i64 G.nd, .sl false false (G.fa.map iT), .sl false false (G.rs.map Rep.T), .sl false false (G.wi.map Pc.T), .sl false false (G.se.map Msg.T)]], 5, 67⟩) (hL : L.length ≤ 1048576) : V.Open En 170 [.sl fr b (L.map Msg.T), .clo 99 [.ptr id 0 0]] h n (.int .i64 (pix (nS G.nd) L 0)) [] (n + 1 * L.length) := by
 have hl : (L.map Msg.T).length = L.length := List.length_map ..
 refine V.Open.of_ev (st := []) Tryz.func170 rfl kb ?_
 refine B3 (fun (a : Nat × Nat) => [.sl fr b (L.map Msg.T), .clo 99 [.ptr id 0 0], .unk, .unk, .unk, .unk, .unk, .int .i64 (L.map Msg.T).length, .int .i64 a.1]) (fun (a : Nat × Nat) => h) (fun (a : Nat × Nat) => a.2) (fun (a : Nat × Nat) => a.1 ≤ L.length ∧ pix (nS G.nd) (L.drop a.1) a.1 = pix (nS G.nd) L 0 ∧ n + 1 * a.1 = a.2) (fun (a : Nat × Nat) => L.length - a.1) (0, n) ?_ ?_ ?_ ?_ ?_
 ·exact ⟨Nat.zero_le _, rfl, by omega⟩
 ·(repeat first | exact LE.nil _ | refine LE.unk _ _ ?_ | refine LE.eq _ _ _ rfl ?_)
 ·exact LessH.refl _
 ·exact Nat.le_refl _
 intro ⟨i, m⟩ hI ih
 obtain ⟨q0, q1, q2⟩ := hI
 dsimp only at q0 q1 q2 ⊢
 refine A6 (st := []) ?_
 refine br ?_ ?_ <;> intro h2_0
 ·(refine B9 (C5 (by first | rfl | assumption | (exact B2 Msg.T Msg0 (k := i) (by omega))) rfl ?_))
  refine N2 (o99 G (L.getD i Msg0) (n := m) (by omega) hh) rfl j2 ?_ ?_
  all_goals intro h4_5
  ·rw [← q1, pix_y (d := Msg0) (L := L) (i := i) (by omega) (of_decide_eq_true h4_5)]; exact fiO rfl rfl (fun _ _ _ e => e) (by omega)
  ·refine C0 ?_
   have e1 := (pix_n (P := nS G.nd) (d := Msg0) (L := L) (i := i) (by omega) (of_decide_eq_false h4_5)).symm.trans q1
   exact C6 (ih (i + 1, m + 1) ⟨by dsimp only; omega, e1, by dsimp only; omega⟩ (by dsimp only; omega)) (by (repeat first | exact LE.nil _ | refine LE.unk _ _ ?_ | refine LE.eq _ _ _ rfl ?_)) (LessH.refl _) (Nat.le_refl _)
 ·rw [← q1, X3 (L := L) (i := i) (by omega)]; exact fiO rfl rfl (fun _ _ _ e => e) (by omega)
theorem o98g (fr b : Bool) (L : List Msg) (G : Grp) {id : Nat} {h : Heap} {n : Nat} (hid : id < n) (hh : h id = some ⟨[[.int .i64 G.nd, .sl false false (G.fa.map iT), .sl false false (G.rs.map Rep.T), .sl false false (G.wi.map Pc.T), .sl false false (G.se.map Msg.T)]], 5, 67⟩) (hL : L.length ≤ 1048576) : V.Open En 98 [.sl fr b (L.map Msg.T), .clo 99 [.ptr id 0 0]] h n (.bool (decide (anyP (nS G.nd) L))) [] (n + 1 * L.length) := by
 refine V.Open.of_ev (st := []) Tryz.func98 rfl kb ?_
 refine L6 (o170g fr b L G hid hh hL) rfl rfl rfl ?_
 refine br ?_ ?_ <;> intro h1_3
 ·first
  | (rw [decide_eq_true (show anyP (nS G.nd) L from (F3 (P := nS G.nd) L 0).1 (by omega))]; exact fiO rfl rfl (fun _ _ _ e => e) (Nat.le_refl _))
  | (rw [decide_eq_false (show ¬ anyP (nS G.nd) L from fun q => by have := (F3 (P := nS G.nd) L 0).2 q; omega)]; exact fiO rfl rfl (fun _ _ _ e => e) (Nat.le_refl _))
 ·first
  | (rw [decide_eq_true (show anyP (nS G.nd) L from (F3 (P := nS G.nd) L 0).1 (by omega))]; exact fiO rfl rfl (fun _ _ _ e => e) (Nat.le_refl _))
  | (rw [decide_eq_false (show ¬ anyP (nS G.nd) L from fun q => by have := (F3 (P := nS G.nd) L 0).2 q; omega)]; exact fiO rfl rfl (fun _ _ _ e => e) (Nat.le_refl _))
theorem Grp.sm {G : Grp} (h : TBs 1048576 G.T) : G.fa.length ≤ 1048576 ∧ G.rs.length ≤ 1048576 ∧ (∀ i, i < G.rs.length → TBs 1048576 (G.rs.getD i Rep0).T) ∧ G.wi.length ≤ 1048576 ∧ G.se.length ≤ 1048576 := by
 obtain ⟨h1, h2, h3, h4⟩ := Grp.tb.1 h
 obtain ⟨a1, a2⟩ := (B1 Rep.T Rep0).1 h2
 exact ⟨((B1 iT 0).1 h1).1, a1, a2, ((B1 Pc.T Pc0).1 h3).1, ((B1 Msg.T Msg0).1 h4).1⟩
theorem s34 (G : Grp) (hb : TBs 1048576 G.T) : Pure En 34 [.agg G.T] [.one (.bool (decide G.OK))] := by
 obtain ⟨hF, hR0, hR, hW, hS⟩ := Grp.sm hb
 have hl1 : (G.fa.map iT).length = G.fa.length := List.length_map ..
 have hl2 : (G.rs.map Rep.T).length = G.rs.length := List.length_map ..
 have hl3 : (G.wi.map Pc.T).length = G.wi.length := List.length_map ..
 have hl4 : (G.se.map Msg.T).length = G.se.length := List.length_map ..
 refine Pure.of_ev (st := []) Tryz.func34 rfl kb ?_
 refine A1 ?_ (by exact Q0) (by exact Q2)
 refine A1 ?_ (by exact Q0) (by exact Q2)
 refine B0 (s97 G.nd G.fa false hF) rfl j2 ?_ ?_ <;> intro h1_4
 ·refine A1 ?_ (by exact Q0) (by exact Q2)
  refine A1 ?_ (by exact Q0) (by exact Q2)
  refine br ?_ ?_ <;> intro h1_12
  ·refine A7 rfl ?_; rintro ⟨⟨q1, q2, q3, q4, q5⟩, _⟩; first | exact h1_4 ⟨q1, q2⟩ | omega
  ·refine A1 ?_ (by exact Q0) (by exact Q2)
   refine br ?_ ?_ <;> intro h1_18
   ·refine A7 rfl ?_; rintro ⟨⟨q1, q2, q3, q4, q5⟩, _⟩; first | exact h1_4 ⟨q1, q2⟩ | omega
   ·refine A1 ?_ (by exact Q0) (by exact Q2)
    refine br ?_ ?_ <;> intro h1_24
    ·refine A7 rfl ?_; rintro ⟨⟨q1, q2, q3, q4, q5⟩, _⟩; first | exact h1_4 ⟨q1, q2⟩ | omega
    ·refine A1 ?_ (by exact Q0) (by exact Q2)
     refine B3 (fun (a : Nat × Nat) => [.unk, .ptr 0 0 0, .unk, .unk, .unk, .unk, .unk, .unk, .unk, .unk, .unk, .unk, .unk, .unk, .unk, .unk, .unk, .unk, .unk, .unk, .unk, .unk, .unk, .unk, .unk, .unk, .unk, .unk, .unk, .unk, .unk, .unk, .unk, .unk, .sl false false (G.rs.map Rep.T), .int .i64 ((G.rs.map Rep.T).length : Int), .int .i64 a.1]) (fun (a : Nat × Nat) => hp [(0, ⟨[[.int .i64 G.nd, .sl false false (G.fa.map iT), .sl false false (G.rs.map Rep.T), .sl false false (G.wi.map Pc.T), .sl false false (G.se.map Msg.T)]], 5, 67⟩)]) (fun (a : Nat × Nat) => a.2) (fun (a : Nat × Nat) => a.1 ≤ G.rs.length ∧ 1 ≤ a.2 ∧ ∀ j, j < a.1 → rsOK G.nd G.rs j) (fun (a : Nat × Nat) => G.rs.length - a.1) (0, 1) ?_ ?_ ?_ ?_ ?_
     ·exact ⟨Nat.zero_le _, Nat.le_refl _, E6⟩
     ·(repeat first | exact LE.nil _ | refine LE.unk _ _ ?_ | refine LE.eq _ _ _ rfl ?_)
     ·(repeat first | exact A5 | (refine A4 ?_ ?_; exact H8))
     ·exact Nat.le_refl _
     intro ⟨i, m⟩ hI ih
     obtain ⟨u0, u1, u2⟩ := hI
     dsimp only at u0 u1 u2 ⊢
     refine A6 (st := []) ?_
     refine br ?_ ?_ <;> intro h4_0
     ·(refine B9 (C5 (by first | rfl | assumption | (first | exact B2 Rep.T Rep0 (k := i) (by omega) | exact B2 Pc.T Pc0 (k := i2) (by omega))) rfl ?_))
      (apply est (u := .agg [.int _ _, .int _ _, .int _ _, .bool _, _, _, _, _]) j3; exact Q0; exact Q2; exact j4; exact kb; rfl)
      refine A1 ?_ (by exact Q0) (by exact Q2)
      refine br ?_ ?_ <;> intro h6_3
      ·refine A7 rfl ?_; rintro ⟨_, q2, _⟩; obtain ⟨e1, e2, e3⟩ := q2 i (by omega); first | omega | exact h6_13 e3
      ·refine A1 ?_ (by exact Q0) (by exact Q2)
       refine A1 ?_ (by exact Q0) (by exact Q2)
       refine br ?_ ?_ <;> intro h6_9
       ·refine A7 rfl ?_; rintro ⟨_, q2, _⟩; obtain ⟨e1, e2, e3⟩ := q2 i (by omega); first | omega | exact h6_13 e3
       ·(apply C3 (vs := [.int _ _, .int _ _, .int _ _, .bool _, _, _, _, _]) j2; exact Q0; exact Q2; rfl; exact kb; rfl)
        refine B0 (s29 (G.rs.getD i Rep0) (hR i (by omega))) rfl j2 ?_ ?_ <;> intro h6_13
        ·refine D3 ⟨by (first | omega | (rcases h1_4.1 with e | e | e <;> omega)), by (first | omega | (rcases h1_4.1 with e | e | e <;> omega))⟩ ?_
         exact C6 (ih (i + 1, m + 1) ⟨by dsimp only; omega, by dsimp only; omega, C8 u2 ⟨by omega, by omega, h6_13⟩⟩ (by dsimp only; omega)) (by (repeat first | exact LE.nil _ | refine LE.unk _ _ ?_ | refine LE.eq _ _ _ rfl ?_)) (by (repeat first | exact A5 | (refine A4 ?_ ?_; exact H8))) (Nat.le_refl _)
        ·refine A7 rfl ?_; rintro ⟨_, q2, _⟩; obtain ⟨e1, e2, e3⟩ := q2 i (by omega); first | omega | exact h6_13 e3
     ·refine A1 ?_ (by exact Q0) (by exact Q2)
      refine B3 (fun (a : Nat × Nat) => [.unk, .ptr 0 0 0, .unk, .unk, .unk, .unk, .unk, .unk, .unk, .unk, .unk, .unk, .unk, .unk, .unk, .unk, .unk, .unk, .unk, .unk, .unk, .unk, .unk, .unk, .unk, .unk, .unk, .unk, .unk, .unk, .unk, .unk, .unk, .unk, .unk, .unk, .unk, .unk, .unk, .unk, .unk, .unk, .unk, .unk, .unk, .unk, .unk, .unk, .unk, .unk, .unk, .unk, .unk, .unk, .unk, .unk, .unk, .unk, .unk, .sl false false (G.wi.map Pc.T), .int .i64 ((G.wi.map Pc.T).length : Int), .int .i64 a.1]) (fun (a : Nat × Nat) => hp [(0, ⟨[[.int .i64 G.nd, .sl false false (G.fa.map iT), .sl false false (G.rs.map Rep.T), .sl false false (G.wi.map Pc.T), .sl false false (G.se.map Msg.T)]], 5, 67⟩)]) (fun (a : Nat × Nat) => a.2) (fun (a : Nat × Nat) => a.1 ≤ G.wi.length ∧ 1 ≤ a.2 ∧ ∀ j, j < a.1 → pcOK G.nd (G.wi.getD j Pc0)) (fun (a : Nat × Nat) => G.wi.length - a.1) (0, m) ?_ ?_ ?_ ?_ ?_
      ·exact ⟨Nat.zero_le _, u1, E6⟩
      ·(repeat first | exact LE.nil _ | refine LE.unk _ _ ?_ | refine LE.eq _ _ _ rfl ?_)
      ·(repeat first | exact A5 | (refine A4 ?_ ?_; exact H8))
      ·exact Nat.le_refl _
      intro ⟨i2, m2⟩ hI ih
      obtain ⟨v0, v1, v2⟩ := hI
      dsimp only at v0 v1 v2 ⊢
      refine A6 (st := []) ?_
      refine br ?_ ?_ <;> intro h10_0
      ·(refine B9 (C5 (by first | rfl | assumption | (first | exact B2 Rep.T Rep0 (k := i) (by omega) | exact B2 Pc.T Pc0 (k := i2) (by omega))) rfl ?_))
       (apply est (u := .agg [.int _ _, .int _ _, .int _ _, .int _ _, .int _ _, .str _, .str _, .str _]) j3; exact Q0; exact Q2; exact j4; exact kb; rfl)
       refine A1 ?_ (by exact Q0) (by exact Q2)
       refine A1 ?_ (by exact Q0) (by exact Q2)
       refine D3 ⟨by (first | omega | (rcases h1_4.1 with e | e | e <;> omega)), by (first | omega | (rcases h1_4.1 with e | e | e <;> omega))⟩ ?_
       refine B0 (L4 _ _ _) rfl j2 ?_ ?_ <;> intro h12_5
       ·refine A1 ?_ (by exact Q0) (by exact Q2)
        (apply C3 (vs := [.int _ _, .int _ _, .int _ _, .int _ _, .str _, .str _, .str _]) j2; exact Q0; exact Q2; rfl; exact kb; rfl)
        refine B0 (s55 G.nd (G.wi.getD i2 Pc0).ms) rfl j2 ?_ ?_ <;> intro h12_12
        ·refine D3 ⟨by (first | omega | (rcases h1_4.1 with e | e | e <;> omega)), by (first | omega | (rcases h1_4.1 with e | e | e <;> omega))⟩ ?_
         exact C6 (ih (i2 + 1, m2 + 1) ⟨by dsimp only; omega, by dsimp only; omega, C8 v2 ⟨h12_5, h12_12.2⟩⟩ (by dsimp only; omega)) (by (repeat first | exact LE.nil _ | refine LE.unk _ _ ?_ | refine LE.eq _ _ _ rfl ?_)) (by (repeat first | exact A5 | (refine A4 ?_ ?_; exact H8))) (Nat.le_refl _)
        ·refine A7 rfl ?_; rintro ⟨_, _, q3, _⟩; obtain ⟨e1, e2⟩ := q3 i2 (by omega); first | exact h12_5 e1 | exact h12_12 ⟨h1_4.1, e2⟩
       ·refine A7 rfl ?_; rintro ⟨_, _, q3, _⟩; obtain ⟨e1, e2⟩ := q3 i2 (by omega); first | exact h12_5 e1 | exact h12_12 ⟨h1_4.1, e2⟩
      ·refine A1 ?_ (by exact Q0) (by exact Q2)
       refine N2 (o98g false false G.se G (id := 0) ?_ ?_ hS) rfl j2 ?_ ?_
       ·exact G4
       ·exact G4
       all_goals intro h15_3
       ·first
        | (refine A7 rfl ?_; rintro ⟨_, _, _, q4⟩; obtain ⟨x, hx, hn⟩ := of_decide_eq_true h15_3; obtain ⟨k, hk, rfl⟩ := List.getElem_of_mem hx; have := q4 k hk; rw [show G.se.getD k Msg0 = G.se[k] by simp [hk]] at this; exact hn ⟨h1_4.1, this⟩)
        | (refine B7 rfl ?_; refine ⟨⟨h1_4.1, h1_4.2, by omega, by omega, by omega⟩, fun j hj => u2 j (by omega), fun j hj => v2 j (by omega), fun j hj => ?_⟩; refine Classical.byContradiction fun q => of_decide_eq_false h15_3 ⟨G.se.getD j Msg0, ?_, fun e => q e.2⟩; rw [show G.se.getD j Msg0 = G.se[j] by simp [hj]]; exact List.getElem_mem hj)
       ·first
        | (refine A7 rfl ?_; rintro ⟨_, _, _, q4⟩; obtain ⟨x, hx, hn⟩ := of_decide_eq_true h15_3; obtain ⟨k, hk, rfl⟩ := List.getElem_of_mem hx; have := q4 k hk; rw [show G.se.getD k Msg0 = G.se[k] by simp [hk]] at this; exact hn ⟨h1_4.1, this⟩)
        | (refine B7 rfl ?_; refine ⟨⟨h1_4.1, h1_4.2, by omega, by omega, by omega⟩, fun j hj => u2 j (by omega), fun j hj => v2 j (by omega), fun j hj => ?_⟩; refine Classical.byContradiction fun q => of_decide_eq_false h15_3 ⟨G.se.getD j Msg0, ?_, fun e => q e.2⟩; rw [show G.se.getD j Msg0 = G.se[j] by simp [hj]]; exact List.getElem_mem hj)
 ·refine A7 rfl ?_; rintro ⟨⟨q1, q2, q3, q4, q5⟩, _⟩; first | exact h1_4 ⟨q1, q2⟩ | omega
end Go.Proofs.YteifdelnahccjaaGreatDoor
