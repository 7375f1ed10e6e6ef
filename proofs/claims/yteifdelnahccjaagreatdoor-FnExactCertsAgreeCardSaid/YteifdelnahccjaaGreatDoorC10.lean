import Derived.Test.YteifdelnahccjaaGreatDoorC9
namespace Go.Proofs.YteifdelnahccjaaGreatDoor
open Go Go.V
set_option linter.unusedVariables false
set_option linter.unusedSimpArgs false
set_option maxRecDepth 20000
set_option maxHeartbeats 4000000
def shMsg : List Sh := .int .i64 :: .int .i64 :: .int .i64 :: .int .i64 :: .str :: .str :: .str :: []
theorem G9 {xs : List V.T} (h : Shs xs shMsg) : ∃ s : Msg, xs = Msg.T s := by
 obtain ⟨_, _, rfl, g0, k0⟩ := C1 h; obtain ⟨a0, rfl⟩ := I4 g0
 obtain ⟨_, _, rfl, g1, k1⟩ := C1 k0; obtain ⟨a1, rfl⟩ := I4 g1
 obtain ⟨_, _, rfl, g2, k2⟩ := C1 k1; obtain ⟨a2, rfl⟩ := I4 g2
 obtain ⟨_, _, rfl, g3, k3⟩ := C1 k2; obtain ⟨a3, rfl⟩ := I4 g3
 obtain ⟨_, _, rfl, g4, k4⟩ := C1 k3; obtain ⟨a4, rfl⟩ := T1 g4
 obtain ⟨_, _, rfl, g5, k5⟩ := C1 k4; obtain ⟨a5, rfl⟩ := T1 g5
 obtain ⟨_, _, rfl, g6, k6⟩ := C1 k5; obtain ⟨a6, rfl⟩ := T1 g6
 obtain rfl := K8 k6
 exact ⟨⟨a0, a1, a2, a3, a4, a5, a6⟩, rfl⟩
theorem Msg.tb {B : Nat} {s : Msg} : TBs B (Msg.T s) ↔ s.dg.size ≤ B ∧ s.bd.size ≤ B ∧ s.mc.size ≤ B := by
 simp only [Msg.T, D8, L4, G7, K7, K6, I0, true_and, and_true]
def shCt : List Sh := .str :: .sl shMsg :: []
theorem shCt_inv {xs : List V.T} (h : Shs xs shCt) : ∃ s : Ct, xs = (Ct.T false) s := by
 obtain ⟨_, _, rfl, g0, k0⟩ := C1 h; obtain ⟨a0, rfl⟩ := T1 g0
 obtain ⟨_, _, rfl, g1, k1⟩ := C1 k0; obtain ⟨a1, rfl⟩ := H3 (f := Msg.T) g1 (fun _ h => G9 h)
 obtain rfl := K8 k1
 exact ⟨⟨a0, a1⟩, rfl⟩
theorem Ct.tb {B : Nat} {s : Ct} : TBs B ((Ct.T false) s) ↔ s.bd.size ≤ B ∧ TB B (.sl false (s.ps.map Msg.T)) := by
 simp only [Ct.T, D8, L4, G7, K7, K6, I0, true_and, and_true]
structure Slt where
 bd : ByteArray
 pr : List Msg
 cm : List Msg
 se : Bool
 dn : Bool
def Slt.T (s : Slt) : List V.T := .str s.bd :: .sl false (s.pr.map Msg.T) :: .sl false (s.cm.map Msg.T) :: .bool s.se :: .bool s.dn :: []
def Slt0 : Slt := ⟨⟨#[]⟩, [], [], false, false⟩
def shSlt : List Sh := .str :: .sl shMsg :: .sl shMsg :: .bool :: .bool :: []
theorem shSlt_inv {xs : List V.T} (h : Shs xs shSlt) : ∃ s : Slt, xs = Slt.T s := by
 obtain ⟨_, _, rfl, g0, k0⟩ := C1 h; obtain ⟨a0, rfl⟩ := T1 g0
 obtain ⟨_, _, rfl, g1, k1⟩ := C1 k0; obtain ⟨a1, rfl⟩ := H3 (f := Msg.T) g1 (fun _ h => G9 h)
 obtain ⟨_, _, rfl, g2, k2⟩ := C1 k1; obtain ⟨a2, rfl⟩ := H3 (f := Msg.T) g2 (fun _ h => G9 h)
 obtain ⟨_, _, rfl, g3, k3⟩ := C1 k2; obtain ⟨a3, rfl⟩ := sh_bool g3
 obtain ⟨_, _, rfl, g4, k4⟩ := C1 k3; obtain ⟨a4, rfl⟩ := sh_bool g4
 obtain rfl := K8 k4
 exact ⟨⟨a0, a1, a2, a3, a4⟩, rfl⟩
theorem Slt.tb {B : Nat} {s : Slt} : TBs B (Slt.T s) ↔ s.bd.size ≤ B ∧ TB B (.sl false (s.pr.map Msg.T)) ∧ TB B (.sl false (s.cm.map Msg.T)) := by
 simp only [Slt.T, D8, L4, G7, K7, K6, I0, true_and, and_true]
structure Rep where
 id : Int
 nd : Int
 vw : Int
 ac : Bool
 sl : List Slt
 cs : List Ct
 lg : List ByteArray
 ch : List Msg
def Rep.T (s : Rep) : List V.T := .int .i64 s.id :: .int .i64 s.nd :: .int .i64 s.vw :: .bool s.ac :: .sl false (s.sl.map Slt.T) :: .sl false (s.cs.map (Ct.T false)) :: .sl false (s.lg.map tT) :: .sl false (s.ch.map Msg.T) :: []
def Rep0 : Rep := ⟨0, 0, 0, false, [], [], [], []⟩
def shRep : List Sh := .int .i64 :: .int .i64 :: .int .i64 :: .bool :: .sl shSlt :: .sl shCt :: .sl shByteArray :: .sl shMsg :: []
theorem shRep_inv {xs : List V.T} (h : Shs xs shRep) : ∃ s : Rep, xs = Rep.T s := by
 obtain ⟨_, _, rfl, g0, k0⟩ := C1 h; obtain ⟨a0, rfl⟩ := I4 g0
 obtain ⟨_, _, rfl, g1, k1⟩ := C1 k0; obtain ⟨a1, rfl⟩ := I4 g1
 obtain ⟨_, _, rfl, g2, k2⟩ := C1 k1; obtain ⟨a2, rfl⟩ := I4 g2
 obtain ⟨_, _, rfl, g3, k3⟩ := C1 k2; obtain ⟨a3, rfl⟩ := sh_bool g3
 obtain ⟨_, _, rfl, g4, k4⟩ := C1 k3; obtain ⟨a4, rfl⟩ := H3 (f := Slt.T) g4 (fun _ h => shSlt_inv h)
 obtain ⟨_, _, rfl, g5, k5⟩ := C1 k4; obtain ⟨a5, rfl⟩ := H3 (f := (Ct.T false)) g5 (fun _ h => shCt_inv h)
 obtain ⟨_, _, rfl, g6, k6⟩ := C1 k5; obtain ⟨a6, rfl⟩ := H3 (f := tT) g6 (fun _ h => U7 h)
 obtain ⟨_, _, rfl, g7, k7⟩ := C1 k6; obtain ⟨a7, rfl⟩ := H3 (f := Msg.T) g7 (fun _ h => G9 h)
 obtain rfl := K8 k7
 exact ⟨⟨a0, a1, a2, a3, a4, a5, a6, a7⟩, rfl⟩
theorem Rep.tb {B : Nat} {s : Rep} : TBs B (Rep.T s) ↔ TB B (.sl false (s.sl.map Slt.T)) ∧ TB B (.sl false (s.cs.map (Ct.T false))) ∧ TB B (.sl false (s.lg.map tT)) ∧ TB B (.sl false (s.ch.map Msg.T)) := by
 simp only [Rep.T, D8, L4, G7, K7, K6, I0, true_and, and_true]
theorem lz56 (s : Msg) (k : Int) (hk : 0 ≤ k ∧ k ≤ 1048576) (hb : TBs 9223372036854775807 (Msg.T s)) : ∃ x : Int, ((-1 ≤ x ∧ x ≤ k) ∧ (0 ≤ x → TBs 1048576 (Msg.T s))) ∧ Pure En 56 [.agg (Msg.T s), .one (.int .i64 k)] [.one (.int .i64 x)] := by
 obtain ⟨b0, b1, b2⟩ := Msg.tb.1 hb
 refine Pure.of_evX (st := []) Tryz.func56 rfl kb ?_
 refine A2 ?_
 refine B9 ?_
 refine br ?_ ?_ <;> intro h2_1
 ·first | exact ⟨-1, ⟨by omega, fun h => by omega⟩, B5 rfl rfl⟩ | exact ⟨_, ⟨by omega, fun hx => Msg.tb.2 ⟨by omega, by omega, by omega⟩⟩, B5 rfl rfl⟩
 ·refine A2 ?_
  refine B9 ?_
  refine br ?_ ?_ <;> intro h5_1
  ·first | exact ⟨-1, ⟨by omega, fun h => by omega⟩, B5 rfl rfl⟩ | exact ⟨_, ⟨by omega, fun hx => Msg.tb.2 ⟨by omega, by omega, by omega⟩⟩, B5 rfl rfl⟩
  ·refine A2 ?_
   refine B9 ?_
   refine br ?_ ?_ <;> intro h8_1
   ·first | exact ⟨-1, ⟨by omega, fun h => by omega⟩, B5 rfl rfl⟩ | exact ⟨_, ⟨by omega, fun hx => Msg.tb.2 ⟨by omega, by omega, by omega⟩⟩, B5 rfl rfl⟩
   ·first | exact ⟨-1, ⟨by omega, fun h => by omega⟩, B5 rfl rfl⟩ | exact ⟨_, ⟨by omega, fun hx => Msg.tb.2 ⟨by omega, by omega, by omega⟩⟩, B5 rfl rfl⟩
theorem lz13 (L : List Msg) (k : Int) (hk : 0 ≤ k ∧ k ≤ 1048576) (hb : TB 9223372036854775807 (.sl false (L.map Msg.T))) : ∃ x : Int, ((-1 ≤ x ∧ x ≤ k) ∧ (0 ≤ x → TB 1048576 (.sl false (L.map Msg.T)))) ∧ Pure En 13 [.one (.sl false (L.map Msg.T)), .one (.int .i64 k)] [.one (.int .i64 x)] := by
 have hl : (L.map Msg.T).length = L.length := List.length_map ..
 obtain ⟨hm, hs⟩ := (B6 Msg.T Msg0).1 hb
 refine Pure.of_evX (st := []) Tryz.func13 rfl kb ?_
 refine B9 ?_
 refine br ?_ ?_ <;> intro h2_1
 ·first | exact ⟨-1, ⟨by omega, fun h => by omega⟩, B5 rfl rfl⟩ | exact ⟨a1, ⟨by omega, fun _ => (B6 Msg.T Msg0).2 ⟨by omega, fun j hj => q3 j (by omega)⟩⟩, B5 rfl rfl⟩
 ·refine C7 (fun (a : Nat × Int) => [.sl false false (L.map Msg.T), .int .i64 a.2, .unk, .unk, .unk, .int .i64 a.1]) (fun (a : Nat × Int) => a.1 ≤ L.length ∧ (0 ≤ a.2 ∧ a.2 ≤ k) ∧ (L.length : Int) ≤ k ∧ ∀ j, j < a.1 → TBs 1048576 (Msg.T (L.getD j Msg0))) (fun (a : Nat × Int) => L.length - a.1) (0, k - (L.map Msg.T).length) ?_ ?_ ?_
  ·exact ⟨Nat.zero_le _, by dsimp only; omega, by omega, fun j hj => absurd hj (Nat.not_lt_zero j)⟩
  ·(repeat first | exact LE.nil _ | refine LE.unk _ _ ?_ | refine LE.eq _ _ _ rfl ?_)
  intro ⟨i, a1⟩ hI ih
  obtain ⟨q0, q1, q2, q3⟩ := hI
  dsimp only at q0 q1 q2 q3 ⊢
  refine A4 (st := []) ?_
  refine br ?_ ?_ <;> intro h5_3
  ·(refine C0 (C4 (by first | rfl | assumption | (exact B3 Msg.T Msg0 (by omega))) rfl ?_))
   refine H6 (lz56 (L.getD i Msg0) a1 (by omega) (hs i (by omega))) rfl j2 ?_
   rintro y h7_5
   try dsimp only at h7_5
   refine br ?_ ?_ <;> intro h8_1
   ·first | exact ⟨-1, ⟨by omega, fun h => by omega⟩, B5 rfl rfl⟩ | exact ⟨a1, ⟨by omega, fun _ => (B6 Msg.T Msg0).2 ⟨by omega, fun j hj => q3 j (by omega)⟩⟩, B5 rfl rfl⟩
   ·refine B9 ?_
    exact P4 (ih (i + 1, y) ⟨by dsimp only; omega, by dsimp only; omega, by omega, fun j hj => by
     by_cases e : j = i
     ·subst e; exact h7_5.2 (by omega)
     ·exact q3 j (by dsimp only at hj; omega)⟩ (by dsimp only; omega)) (by (repeat first | exact LE.nil _ | refine LE.unk _ _ ?_ | refine LE.eq _ _ _ rfl ?_))
  ·first | exact ⟨-1, ⟨by omega, fun h => by omega⟩, B5 rfl rfl⟩ | exact ⟨a1, ⟨by omega, fun _ => (B6 Msg.T Msg0).2 ⟨by omega, fun j hj => q3 j (by omega)⟩⟩, B5 rfl rfl⟩
theorem lt61 (s : Msg) (hb : TBs 1048576 (Msg.T s)) : Pure En 61 [.agg (Msg.T s)] [.agg (Msg.T s)] := by
 obtain ⟨b0, b1, b2⟩ := Msg.tb.1 hb
 refine Pure.of_ev (st := []) Tryz.func61 rfl kb ?_
 refine A2 ?_
 (apply est (u := .int _ _) j3; exact Q0; rfl; exact j4; exact kb; rfl)
 refine A2 ?_
 (apply est (u := .int _ _) j3; exact Q0; rfl; exact j4; exact kb; rfl)
 refine A2 ?_
 (apply est (u := .int _ _) j3; exact Q0; rfl; exact j4; exact kb; rfl)
 refine A2 ?_
 (apply est (u := .int _ _) j3; exact Q0; rfl; exact j4; exact kb; rfl)
 refine A2 ?_
 (apply est (u := .str _) j3; exact Q0; rfl; exact j4; exact kb; rfl)
 refine A2 ?_
 (apply est (u := .str _) j3; exact Q0; rfl; exact j4; exact kb; rfl)
 refine A2 ?_
 (apply est (u := .str _) j3; exact Q0; rfl; exact j4; exact kb; rfl)
 (apply C5 (vs := [.int _ _, .int _ _, .int _ _, .int _ _, .str _, .str _, .str _]) j2; exact Q0; rfl; rfl; exact kb; rfl)
 (apply est (u := .agg [.int _ _, .int _ _, .int _ _, .int _ _, .str _, .str _, .str _]) j3; exact Q0; rfl; exact j4; exact kb; rfl)
 refine C6 [] (A0 (A3 (xs := (Msg.T s).map (T.toV true)) rfl (by exact Q0) j2 kb rfl) A1) ?_
 exact SnapL.cons _ _ _ _ (SnapC.agg (F2 _)) SnapL.nil
theorem lt15 (L : List Msg) (hb : TB 1048576 (.sl false (L.map Msg.T))) : Pure En 15 [.one (.sl false (L.map Msg.T))] [.one (.sl false (L.map Msg.T))] := by
 have hl : (L.map Msg.T).length = L.length := List.length_map ..
 obtain ⟨hm, hs⟩ := (B6 Msg.T Msg0).1 hb
 refine Pure.of_ev (st := []) Tryz.func15 rfl kb ?_
 refine emk (s' := 80) j6 kz ?_ ?_ ?_
 ·exact Q8
 ·exact Q8
 refine B1 (fun (i : Nat) => [.sl false false (L.map Msg.T), .unk, .unk, .view 0 0 (L.map Msg.T).length, .int .i64 i]) (fun (i : Nat) => hp [(0, ⟨mkG (vT Msg.T) [.int .i64 0, .int .i64 0, .int .i64 0, .int .i64 0, .str ⟨#[]⟩, .str ⟨#[]⟩, .str ⟨#[]⟩] L i, 7, 37⟩)]) (fun (i : Nat) => 1) (fun (i : Nat) => i ≤ L.length) (fun (i : Nat) => L.length - i) 0 ?_ ?_ ?_ ?_ ?_
 ·exact Nat.zero_le _
 ·(repeat first | exact LE.nil _ | refine LE.unk _ _ ?_ | refine LE.eq _ _ _ rfl ?_)
 ·(repeat first | exact A5 | (refine A6 ?_ ?_; (first | exact Q0 | ((simp (disch := omega) only [↓app0, ↓appC, ↓updS, ↓updN, ↓hpS, ↓hpN]); exact congrArg (fun z => some (Blk.mk z 7 37)) (by rw [H1, ← hl]; rfl)))))
 ·exact Nat.le_refl _
 intro i hI ih
 refine A4 (st := []) ?_
 refine br ?_ ?_ <;> intro h3_3
 ·(refine C0 (C4 (by first | rfl | assumption | (exact B3 Msg.T Msg0 (by omega))) rfl ?_))
  refine C2 (lt61 (L.getD i Msg0) (hs i (by omega))) rfl rfl rfl ?_
  (refine G4 (by exact Q0) ⟨rfl, C0 ?_⟩)
  (apply est j3; exact Q0; exact J6 (vT Msg.T) [.int .i64 0, .int .i64 0, .int .i64 0, .int .i64 0, .str ⟨#[]⟩, .str ⟨#[]⟩, .str ⟨#[]⟩] (by omega); exact j4; exact kb; rfl)
  refine B9 ?_
  exact D1 (ih (i + 1) (by omega) (by omega)) (by (repeat first | exact LE.nil _ | refine LE.unk _ _ ?_ | refine LE.eq _ _ _ rfl ?_)) (by (repeat first | exact A5 | (refine A6 ?_ ?_; ((simp (disch := omega) only [↓app0, ↓appC, ↓updS, ↓updN, ↓hpS, ↓hpN]); exact congrArg (fun z => some (Blk.mk z 7 37)) (J7 (vT Msg.T) [.int .i64 0, .int .i64 0, .int .i64 0, .int .i64 0, .str ⟨#[]⟩, .str ⟨#[]⟩, .str ⟨#[]⟩] Msg0 (by omega)))))) (Nat.le_refl _)
 ·obtain rfl : i = L.length := by omega
  refine C6 [0] rfl ?_
  exact SnapL.cons _ _ _ _ (.one _ _ (H4 (sz := 7) (ty := 37) (by simp) (by (simp (disch := omega) only [↓app0, ↓appC, ↓updS, ↓updN, ↓hpS, ↓hpN]); exact congrArg (fun z => some (Blk.mk z 7 37)) (H2 (vT Msg.T) [.int .i64 0, .int .i64 0, .int .i64 0, .int .i64 0, .str ⟨#[]⟩, .str ⟨#[]⟩, .str ⟨#[]⟩] L)) hl)) SnapL.nil
theorem le66 (s : Msg) (hb : TBs 1048576 (Msg.T s)) : Pure En 66 [.agg (Msg.T s), .agg (Msg.T s)] [.one (.bool true)] := by
 obtain ⟨b0, b1, b2⟩ := Msg.tb.1 hb
 refine Pure.of_ev (st := []) Tryz.func66 rfl kb ?_
 refine A2 ?_
 refine A2 ?_
 refine br ?_ ?_ <;> intro h1_4
 ·first | exact B5 rfl rfl | contradiction | (exfalso; simp_all; done)
 ·refine A2 ?_
  refine A2 ?_
  refine br ?_ ?_ <;> intro h3_4
  ·first | exact B5 rfl rfl | contradiction | (exfalso; simp_all; done)
  ·refine A2 ?_
   refine A2 ?_
   refine br ?_ ?_ <;> intro h5_4
   ·first | exact B5 rfl rfl | contradiction | (exfalso; simp_all; done)
   ·refine A2 ?_
    refine A2 ?_
    refine br ?_ ?_ <;> intro h7_4
    ·first | exact B5 rfl rfl | contradiction | (exfalso; simp_all; done)
    ·refine A2 ?_
     refine A2 ?_
     refine br ?_ ?_ <;> intro h9_4
     ·first | exact B5 rfl rfl | contradiction | (exfalso; simp_all; done)
     ·refine A2 ?_
      refine A2 ?_
      refine br ?_ ?_ <;> intro h11_4
      ·first | exact B5 rfl rfl | contradiction | (exfalso; simp_all; done)
      ·refine A2 ?_
       refine A2 ?_
       refine br ?_ ?_ <;> intro h13_4
       ·first | exact B5 rfl rfl | contradiction | (exfalso; simp_all; done)
       ·first | exact B5 rfl rfl | contradiction | (exfalso; simp_all; done)
theorem le18 (L : List Msg) (hb : TB 1048576 (.sl false (L.map Msg.T))) : Pure En 18 [.one (.sl false (L.map Msg.T)), .one (.sl false (L.map Msg.T))] [.one (.bool true)] := by
 have hl : (L.map Msg.T).length = L.length := List.length_map ..
 obtain ⟨hm, hs⟩ := (B6 Msg.T Msg0).1 hb
 refine Pure.of_ev (st := []) Tryz.func18 rfl kb ?_
 refine br ?_ ?_ <;> intro h1_4
 ·first | exact B5 rfl rfl | contradiction | (exfalso; simp_all; done)
 ·refine C7 (fun (i : Nat) => [.sl false false (L.map Msg.T), .sl false false (L.map Msg.T), .unk, .unk, .unk, .int .i64 i]) (fun (i : Nat) => i ≤ L.length) (fun (i : Nat) => L.length - i) 0 ?_ ?_ ?_
  ·exact Nat.zero_le _
  ·(repeat first | exact LE.nil _ | refine LE.unk _ _ ?_ | refine LE.eq _ _ _ rfl ?_)
  intro i hI ih
  refine A4 (st := []) ?_
  refine br ?_ ?_ <;> intro h4_3
  ·(refine C0 (C4 (by first | rfl | assumption | (exact B3 Msg.T Msg0 (by omega))) rfl ?_))
   (refine C0 (C4 (by first | rfl | assumption | (exact B3 Msg.T Msg0 (by omega))) rfl ?_))
   refine C2 (le66 (L.getD i Msg0) (hs i (by omega))) rfl rfl rfl ?_
   refine B9 ?_
   exact P4 (ih (i + 1) (by omega) (by omega)) (by (repeat first | exact LE.nil _ | refine LE.unk _ _ ?_ | refine LE.eq _ _ _ rfl ?_))
  ·first | exact B5 rfl rfl | contradiction | (exfalso; simp_all; done)
theorem lz73 (L : List ByteArray) (k : Int) (hk : 0 ≤ k ∧ k ≤ 1048576) (hb : TB 9223372036854775807 (.sl false (L.map tT))) : ∃ x : Int, ((-1 ≤ x ∧ x ≤ k) ∧ (0 ≤ x → TB 1048576 (.sl false (L.map tT)))) ∧ Pure En 73 [.one (.sl false (L.map tT)), .one (.int .i64 k)] [.one (.int .i64 x)] := by
 have hl : (L.map tT).length = L.length := List.length_map ..
 obtain ⟨hm, hs⟩ := (B6 tT (⟨#[]⟩ : ByteArray)).1 hb
 refine Pure.of_evX (st := []) Tryz.func73 rfl kb ?_
 refine B9 ?_
 refine br ?_ ?_ <;> intro h2_1
 ·first | exact ⟨-1, ⟨by omega, fun h => by omega⟩, B5 rfl rfl⟩ | exact ⟨a1, ⟨by omega, fun _ => (B6 tT (⟨#[]⟩ : ByteArray)).2 ⟨by omega, fun j hj => q3 j (by omega)⟩⟩, B5 rfl rfl⟩
 ·refine C7 (fun (a : Nat × Int) => [.sl false false (L.map tT), .int .i64 a.2, .unk, .unk, .unk, .int .i64 a.1]) (fun (a : Nat × Int) => a.1 ≤ L.length ∧ (0 ≤ a.2 ∧ a.2 ≤ k) ∧ (L.length : Int) ≤ k ∧ ∀ j, j < a.1 → TBs 1048576 (tT (L.getD j (⟨#[]⟩ : ByteArray)))) (fun (a : Nat × Int) => L.length - a.1) (0, k - (L.map tT).length) ?_ ?_ ?_
  ·exact ⟨Nat.zero_le _, by dsimp only; omega, by omega, fun j hj => absurd hj (Nat.not_lt_zero j)⟩
  ·(repeat first | exact LE.nil _ | refine LE.unk _ _ ?_ | refine LE.eq _ _ _ rfl ?_)
  intro ⟨i, a1⟩ hI ih
  obtain ⟨q0, q1, q2, q3⟩ := hI
  dsimp only at q0 q1 q2 q3 ⊢
  have hz : i < L.length → (L.getD i (⟨#[]⟩ : ByteArray)).size ≤ 9223372036854775807 := fun hi => K7.1 (D8.1 (hs i hi)).1
  have hzz : (L.getD ((i : Int)).toNat (⟨#[]⟩ : ByteArray)).size = (L.getD i (⟨#[]⟩ : ByteArray)).size := rfl
  refine A4 (st := []) ?_
  refine br ?_ ?_ <;> intro h5_3
  ·(refine C0 (C4 (by first | rfl | assumption | (exact B3 tT (⟨#[]⟩ : ByteArray) (by omega))) rfl ?_))
   refine B9 ?_
   refine br ?_ ?_ <;> intro h8_1
   ·first | exact ⟨-1, ⟨by omega, fun h => by omega⟩, B5 rfl rfl⟩ | exact ⟨a1, ⟨by omega, fun _ => (B6 tT (⟨#[]⟩ : ByteArray)).2 ⟨by omega, fun j hj => q3 j (by omega)⟩⟩, B5 rfl rfl⟩
   ·refine B9 ?_
    exact P4 (ih (i + 1, (a1 - (L.getD i (⟨#[]⟩ : ByteArray)).size)) ⟨by dsimp only; omega, by dsimp only; omega, by omega, fun j hj => by
     by_cases e : j = i
     ·subst e; exact D8.2 ⟨K7.2 (by omega), G7.2 trivial⟩
     ·exact q3 j (by dsimp only at hj; omega)⟩ (by dsimp only; omega)) (by (repeat first | exact LE.nil _ | refine LE.unk _ _ ?_ | refine LE.eq _ _ _ rfl ?_))
  ·first | exact ⟨-1, ⟨by omega, fun h => by omega⟩, B5 rfl rfl⟩ | exact ⟨a1, ⟨by omega, fun _ => (B6 tT (⟨#[]⟩ : ByteArray)).2 ⟨by omega, fun j hj => q3 j (by omega)⟩⟩, B5 rfl rfl⟩
theorem lt80 (L : List ByteArray) (hb : TB 1048576 (.sl false (L.map tT))) : Pure En 80 [.one (.sl false (L.map tT))] [.one (.sl false (L.map tT))] := by
 have hl : (L.map tT).length = L.length := List.length_map ..
 obtain ⟨hm, hs⟩ := (B6 tT (⟨#[]⟩ : ByteArray)).1 hb
 refine Pure.of_ev (st := []) Tryz.func80 rfl kb ?_
 refine emk (s' := 16) j6 kz ?_ ?_ ?_
 ·exact Q8
 ·exact Q8
 refine B1 (fun (i : Nat) => [.sl false false (L.map tT), .unk, .unk, .view 0 0 (L.map tT).length, .int .i64 i]) (fun (i : Nat) => hp [(0, ⟨mkG (vT tT) [.str ⟨#[]⟩] L i, 1, 9⟩)]) (fun (i : Nat) => 1) (fun (i : Nat) => i ≤ L.length) (fun (i : Nat) => L.length - i) 0 ?_ ?_ ?_ ?_ ?_
 ·exact Nat.zero_le _
 ·(repeat first | exact LE.nil _ | refine LE.unk _ _ ?_ | refine LE.eq _ _ _ rfl ?_)
 ·(repeat first | exact A5 | (refine A6 ?_ ?_; (first | exact Q0 | ((simp (disch := omega) only [↓app0, ↓appC, ↓updS, ↓updN, ↓hpS, ↓hpN]); exact congrArg (fun z => some (Blk.mk z 1 9)) (by rw [H1, ← hl]; rfl)))))
 ·exact Nat.le_refl _
 intro i hI ih
 refine A4 (st := []) ?_
 refine br ?_ ?_ <;> intro h3_3
 ·(refine C0 (C4 (by first | rfl | assumption | (exact B3 tT (⟨#[]⟩ : ByteArray) (by omega))) rfl ?_))
  (refine G4 (by exact Q0) ⟨rfl, C0 ?_⟩)
  (apply est j3; exact Q0; exact J6 (vT tT) [.str ⟨#[]⟩] (by omega); exact j4; exact kb; rfl)
  refine B9 ?_
  exact D1 (ih (i + 1) (by omega) (by omega)) (by (repeat first | exact LE.nil _ | refine LE.unk _ _ ?_ | refine LE.eq _ _ _ rfl ?_)) (by (repeat first | exact A5 | (refine A6 ?_ ?_; ((simp (disch := omega) only [↓app0, ↓appC, ↓updS, ↓updN, ↓hpS, ↓hpN]); exact congrArg (fun z => some (Blk.mk z 1 9)) (J7 (vT tT) [.str ⟨#[]⟩] (⟨#[]⟩ : ByteArray) (by omega)))))) (Nat.le_refl _)
 ·obtain rfl : i = L.length := by omega
  refine C6 [0] rfl ?_
  exact SnapL.cons _ _ _ _ (.one _ _ (H4 (sz := 1) (ty := 9) (by simp) (by (simp (disch := omega) only [↓app0, ↓appC, ↓updS, ↓updN, ↓hpS, ↓hpN]); exact congrArg (fun z => some (Blk.mk z 1 9)) (H2 (vT tT) [.str ⟨#[]⟩] L)) hl)) SnapL.nil
theorem le17 (L : List ByteArray) (hb : TB 1048576 (.sl false (L.map tT))) : Pure En 17 [.one (.sl false (L.map tT)), .one (.sl false (L.map tT))] [.one (.bool true)] := by
 have hl : (L.map tT).length = L.length := List.length_map ..
 obtain ⟨hm, hs⟩ := (B6 tT (⟨#[]⟩ : ByteArray)).1 hb
 refine Pure.of_ev (st := []) Tryz.func17 rfl kb ?_
 refine br ?_ ?_ <;> intro h1_4
 ·first | exact B5 rfl rfl | contradiction | (exfalso; simp_all; done)
 ·refine C7 (fun (i : Nat) => [.sl false false (L.map tT), .sl false false (L.map tT), .unk, .unk, .unk, .int .i64 i]) (fun (i : Nat) => i ≤ L.length) (fun (i : Nat) => L.length - i) 0 ?_ ?_ ?_
  ·exact Nat.zero_le _
  ·(repeat first | exact LE.nil _ | refine LE.unk _ _ ?_ | refine LE.eq _ _ _ rfl ?_)
  intro i hI ih
  refine A4 (st := []) ?_
  refine br ?_ ?_ <;> intro h4_3
  ·(refine C0 (C4 (by first | rfl | assumption | (exact B3 tT (⟨#[]⟩ : ByteArray) (by omega))) rfl ?_))
   (refine C0 (C4 (by first | rfl | assumption | (exact B3 tT (⟨#[]⟩ : ByteArray) (by omega))) rfl ?_))
   refine br ?_ ?_ <;> intro h6_8
   ·first | exact B5 rfl rfl | contradiction | (exfalso; simp_all; done)
   ·refine B9 ?_
    exact P4 (ih (i + 1) (by omega) (by omega)) (by (repeat first | exact LE.nil _ | refine LE.unk _ _ ?_ | refine LE.eq _ _ _ rfl ?_))
  ·first | exact B5 rfl rfl | contradiction | (exfalso; simp_all; done)
theorem lz150 (s : Ct) (k : Int) (hk : 0 ≤ k ∧ k ≤ 1048576) (hb : TBs 9223372036854775807 ((Ct.T false) s)) : ∃ x : Int, ((-1 ≤ x ∧ x ≤ k) ∧ (0 ≤ x → TBs 1048576 ((Ct.T false) s))) ∧ Pure En 150 [.agg ((Ct.T false) s), .one (.int .i64 k)] [.one (.int .i64 x)] := by
 obtain ⟨b0, b1⟩ := Ct.tb.1 hb
 refine Pure.of_evX (st := []) Tryz.func150 rfl kb ?_
 refine A2 ?_
 refine B9 ?_
 refine br ?_ ?_ <;> intro h2_1
 ·first | exact ⟨-1, ⟨by omega, fun h => by omega⟩, B5 rfl rfl⟩ | exact ⟨_, ⟨by omega, fun hx => Ct.tb.2 ⟨by omega, h4_3.2 (by omega)⟩⟩, B5 rfl rfl⟩
 ·refine A2 ?_
  refine H6 (lz13 s.ps (k - (s.bd.size : Int)) (by omega) b1) rfl j2 ?_
  rintro y1 h4_3
  try dsimp only at h4_3
  refine br ?_ ?_ <;> intro h5_1
  ·first | exact ⟨-1, ⟨by omega, fun h => by omega⟩, B5 rfl rfl⟩ | exact ⟨_, ⟨by omega, fun hx => Ct.tb.2 ⟨by omega, h4_3.2 (by omega)⟩⟩, B5 rfl rfl⟩
  ·first | exact ⟨-1, ⟨by omega, fun h => by omega⟩, B5 rfl rfl⟩ | exact ⟨_, ⟨by omega, fun hx => Ct.tb.2 ⟨by omega, h4_3.2 (by omega)⟩⟩, B5 rfl rfl⟩
theorem lz72 (L : List Ct) (k : Int) (hk : 0 ≤ k ∧ k ≤ 1048576) (hb : TB 9223372036854775807 (.sl false (L.map (Ct.T false)))) : ∃ x : Int, ((-1 ≤ x ∧ x ≤ k) ∧ (0 ≤ x → TB 1048576 (.sl false (L.map (Ct.T false))))) ∧ Pure En 72 [.one (.sl false (L.map (Ct.T false))), .one (.int .i64 k)] [.one (.int .i64 x)] := by
 have hl : (L.map (Ct.T false)).length = L.length := List.length_map ..
 obtain ⟨hm, hs⟩ := (B6 (Ct.T false) Ct0).1 hb
 refine Pure.of_evX (st := []) Tryz.func72 rfl kb ?_
 refine B9 ?_
 refine br ?_ ?_ <;> intro h2_1
 ·first | exact ⟨-1, ⟨by omega, fun h => by omega⟩, B5 rfl rfl⟩ | exact ⟨a1, ⟨by omega, fun _ => (B6 (Ct.T false) Ct0).2 ⟨by omega, fun j hj => q3 j (by omega)⟩⟩, B5 rfl rfl⟩
 ·refine C7 (fun (a : Nat × Int) => [.sl false false (L.map (Ct.T false)), .int .i64 a.2, .unk, .unk, .unk, .int .i64 a.1]) (fun (a : Nat × Int) => a.1 ≤ L.length ∧ (0 ≤ a.2 ∧ a.2 ≤ k) ∧ (L.length : Int) ≤ k ∧ ∀ j, j < a.1 → TBs 1048576 ((Ct.T false) (L.getD j Ct0))) (fun (a : Nat × Int) => L.length - a.1) (0, k - (L.map (Ct.T false)).length) ?_ ?_ ?_
  ·exact ⟨Nat.zero_le _, by dsimp only; omega, by omega, fun j hj => absurd hj (Nat.not_lt_zero j)⟩
  ·(repeat first | exact LE.nil _ | refine LE.unk _ _ ?_ | refine LE.eq _ _ _ rfl ?_)
  intro ⟨i, a1⟩ hI ih
  obtain ⟨q0, q1, q2, q3⟩ := hI
  dsimp only at q0 q1 q2 q3 ⊢
  refine A4 (st := []) ?_
  refine br ?_ ?_ <;> intro h5_3
  ·(refine C0 (C4 (by first | rfl | assumption | (exact B3 (Ct.T false) Ct0 (by omega))) rfl ?_))
   refine H6 (lz150 (L.getD i Ct0) a1 (by omega) (hs i (by omega))) rfl j2 ?_
   rintro y h7_5
   try dsimp only at h7_5
   refine br ?_ ?_ <;> intro h8_1
   ·first | exact ⟨-1, ⟨by omega, fun h => by omega⟩, B5 rfl rfl⟩ | exact ⟨a1, ⟨by omega, fun _ => (B6 (Ct.T false) Ct0).2 ⟨by omega, fun j hj => q3 j (by omega)⟩⟩, B5 rfl rfl⟩
   ·refine B9 ?_
    exact P4 (ih (i + 1, y) ⟨by dsimp only; omega, by dsimp only; omega, by omega, fun j hj => by
     by_cases e : j = i
     ·subst e; exact h7_5.2 (by omega)
     ·exact q3 j (by dsimp only at hj; omega)⟩ (by dsimp only; omega)) (by (repeat first | exact LE.nil _ | refine LE.unk _ _ ?_ | refine LE.eq _ _ _ rfl ?_))
  ·first | exact ⟨-1, ⟨by omega, fun h => by omega⟩, B5 rfl rfl⟩ | exact ⟨a1, ⟨by omega, fun _ => (B6 (Ct.T false) Ct0).2 ⟨by omega, fun j hj => q3 j (by omega)⟩⟩, B5 rfl rfl⟩
theorem lt157 (s : Ct) (hb : TBs 1048576 ((Ct.T false) s)) : Pure En 157 [.agg ((Ct.T false) s)] [.agg ((Ct.T false) s)] := by
 obtain ⟨b0, b1⟩ := Ct.tb.1 hb
 refine Pure.of_ev (st := []) Tryz.func157 rfl kb ?_
 refine A2 ?_
 (apply est (u := .str _) j3; exact Q0; rfl; exact j4; exact kb; rfl)
 refine A2 ?_
 refine C2 (lt15 s.ps b1) rfl rfl rfl ?_
 (apply est (u := .sl _ _ _) j3; exact Q0; rfl; exact j4; exact kb; rfl)
 (apply C5 (vs := [.str _, _]) j2; exact Q0; rfl; rfl; exact kb; rfl)
 (apply est (u := .agg [.str _, _]) j3; exact Q0; rfl; exact j4; exact kb; rfl)
 refine C6 [] (A0 (A3 (xs := ((Ct.T false) s).map (T.toV true)) rfl (by exact Q0) j2 kb rfl) A1) ?_
 exact SnapL.cons _ _ _ _ (SnapC.agg (F2 _)) SnapL.nil
theorem lt79 (L : List Ct) (hb : TB 1048576 (.sl false (L.map (Ct.T false)))) : Pure En 79 [.one (.sl false (L.map (Ct.T false)))] [.one (.sl false (L.map (Ct.T false)))] := by
 have hl : (L.map (Ct.T false)).length = L.length := List.length_map ..
 obtain ⟨hm, hs⟩ := (B6 (Ct.T false) Ct0).1 hb
 refine Pure.of_ev (st := []) Tryz.func79 rfl kb ?_
 refine emk (s' := 40) j6 kz ?_ ?_ ?_
 ·exact Q8
 ·exact Q8
 refine B1 (fun (i : Nat) => [.sl false false (L.map (Ct.T false)), .unk, .unk, .view 0 0 (L.map (Ct.T false)).length, .int .i64 i]) (fun (i : Nat) => hp [(0, ⟨mkG (vT (Ct.T false)) [.str ⟨#[]⟩, .nsl] L i, 2, 44⟩)]) (fun (i : Nat) => 1) (fun (i : Nat) => i ≤ L.length) (fun (i : Nat) => L.length - i) 0 ?_ ?_ ?_ ?_ ?_
 ·exact Nat.zero_le _
 ·(repeat first | exact LE.nil _ | refine LE.unk _ _ ?_ | refine LE.eq _ _ _ rfl ?_)
 ·(repeat first | exact A5 | (refine A6 ?_ ?_; (first | exact Q0 | ((simp (disch := omega) only [↓app0, ↓appC, ↓updS, ↓updN, ↓hpS, ↓hpN]); exact congrArg (fun z => some (Blk.mk z 2 44)) (by rw [H1, ← hl]; rfl)))))
 ·exact Nat.le_refl _
 intro i hI ih
 refine A4 (st := []) ?_
 refine br ?_ ?_ <;> intro h3_3
 ·(refine C0 (C4 (by first | rfl | assumption | (exact B3 (Ct.T false) Ct0 (by omega))) rfl ?_))
  refine C2 (lt157 (L.getD i Ct0) (hs i (by omega))) rfl rfl rfl ?_
  (refine G4 (by exact Q0) ⟨rfl, C0 ?_⟩)
  (apply est j3; exact Q0; exact J6 (vT (Ct.T false)) [.str ⟨#[]⟩, .nsl] (by omega); exact j4; exact kb; rfl)
  refine B9 ?_
  exact D1 (ih (i + 1) (by omega) (by omega)) (by (repeat first | exact LE.nil _ | refine LE.unk _ _ ?_ | refine LE.eq _ _ _ rfl ?_)) (by (repeat first | exact A5 | (refine A6 ?_ ?_; ((simp (disch := omega) only [↓app0, ↓appC, ↓updS, ↓updN, ↓hpS, ↓hpN]); exact congrArg (fun z => some (Blk.mk z 2 44)) (J7 (vT (Ct.T false)) [.str ⟨#[]⟩, .nsl] Ct0 (by omega)))))) (Nat.le_refl _)
 ·obtain rfl : i = L.length := by omega
  refine C6 [0] rfl ?_
  exact SnapL.cons _ _ _ _ (.one _ _ (H4 (sz := 2) (ty := 44) (by simp) (by (simp (disch := omega) only [↓app0, ↓appC, ↓updS, ↓updN, ↓hpS, ↓hpN]); exact congrArg (fun z => some (Blk.mk z 2 44)) (H2 (vT (Ct.T false)) [.str ⟨#[]⟩, .nsl] L)) hl)) SnapL.nil
theorem le163 (s : Ct) (hb : TBs 1048576 ((Ct.T false) s)) : Pure En 163 [.agg ((Ct.T false) s), .agg ((Ct.T false) s)] [.one (.bool true)] := by
 obtain ⟨b0, b1⟩ := Ct.tb.1 hb
 refine Pure.of_ev (st := []) Tryz.func163 rfl kb ?_
 refine A2 ?_
 refine A2 ?_
 refine br ?_ ?_ <;> intro h1_4
 ·first | exact B5 rfl rfl | contradiction | (exfalso; simp_all; done)
 ·refine A2 ?_
  refine A2 ?_
  refine C2 (le18 s.ps b1) rfl rfl rfl ?_
  first | exact B5 rfl rfl | contradiction | (exfalso; simp_all; done)
theorem le88 (L : List Ct) (hb : TB 1048576 (.sl false (L.map (Ct.T false)))) : Pure En 88 [.one (.sl false (L.map (Ct.T false))), .one (.sl false (L.map (Ct.T false)))] [.one (.bool true)] := by
 have hl : (L.map (Ct.T false)).length = L.length := List.length_map ..
 obtain ⟨hm, hs⟩ := (B6 (Ct.T false) Ct0).1 hb
 refine Pure.of_ev (st := []) Tryz.func88 rfl kb ?_
 refine br ?_ ?_ <;> intro h1_4
 ·first | exact B5 rfl rfl | contradiction | (exfalso; simp_all; done)
 ·refine C7 (fun (i : Nat) => [.sl false false (L.map (Ct.T false)), .sl false false (L.map (Ct.T false)), .unk, .unk, .unk, .int .i64 i]) (fun (i : Nat) => i ≤ L.length) (fun (i : Nat) => L.length - i) 0 ?_ ?_ ?_
  ·exact Nat.zero_le _
  ·(repeat first | exact LE.nil _ | refine LE.unk _ _ ?_ | refine LE.eq _ _ _ rfl ?_)
  intro i hI ih
  refine A4 (st := []) ?_
  refine br ?_ ?_ <;> intro h4_3
  ·(refine C0 (C4 (by first | rfl | assumption | (exact B3 (Ct.T false) Ct0 (by omega))) rfl ?_))
   (refine C0 (C4 (by first | rfl | assumption | (exact B3 (Ct.T false) Ct0 (by omega))) rfl ?_))
   refine C2 (le163 (L.getD i Ct0) (hs i (by omega))) rfl rfl rfl ?_
   refine B9 ?_
   exact P4 (ih (i + 1) (by omega) (by omega)) (by (repeat first | exact LE.nil _ | refine LE.unk _ _ ?_ | refine LE.eq _ _ _ rfl ?_))
  ·first | exact B5 rfl rfl | contradiction | (exfalso; simp_all; done)
theorem lz149 (s : Slt) (k : Int) (hk : 0 ≤ k ∧ k ≤ 1048576) (hb : TBs 9223372036854775807 (Slt.T s)) : ∃ x : Int, ((-1 ≤ x ∧ x ≤ k) ∧ (0 ≤ x → TBs 1048576 (Slt.T s))) ∧ Pure En 149 [.agg (Slt.T s), .one (.int .i64 k)] [.one (.int .i64 x)] := by
 obtain ⟨b0, b1, b2⟩ := Slt.tb.1 hb
 refine Pure.of_evX (st := []) Tryz.func149 rfl kb ?_
 refine A2 ?_
 refine B9 ?_
 refine br ?_ ?_ <;> intro h2_1
 ·first | exact ⟨-1, ⟨by omega, fun h => by omega⟩, B5 rfl rfl⟩ | exact ⟨_, ⟨by omega, fun hx => Slt.tb.2 ⟨by omega, h4_3.2 (by omega), h7_3.2 (by omega)⟩⟩, B5 rfl rfl⟩
 ·refine A2 ?_
  refine H6 (lz13 s.pr (k - (s.bd.size : Int)) (by omega) b1) rfl j2 ?_
  rintro y1 h4_3
  try dsimp only at h4_3
  refine br ?_ ?_ <;> intro h5_1
  ·first | exact ⟨-1, ⟨by omega, fun h => by omega⟩, B5 rfl rfl⟩ | exact ⟨_, ⟨by omega, fun hx => Slt.tb.2 ⟨by omega, h4_3.2 (by omega), h7_3.2 (by omega)⟩⟩, B5 rfl rfl⟩
  ·refine A2 ?_
   refine H6 (lz13 s.cm (y1) (by omega) b2) rfl j2 ?_
   rintro y2 h7_3
   try dsimp only at h7_3
   refine br ?_ ?_ <;> intro h8_1
   ·first | exact ⟨-1, ⟨by omega, fun h => by omega⟩, B5 rfl rfl⟩ | exact ⟨_, ⟨by omega, fun hx => Slt.tb.2 ⟨by omega, h4_3.2 (by omega), h7_3.2 (by omega)⟩⟩, B5 rfl rfl⟩
   ·first | exact ⟨-1, ⟨by omega, fun h => by omega⟩, B5 rfl rfl⟩ | exact ⟨_, ⟨by omega, fun hx => Slt.tb.2 ⟨by omega, h4_3.2 (by omega), h7_3.2 (by omega)⟩⟩, B5 rfl rfl⟩
theorem lz71 (L : List Slt) (k : Int) (hk : 0 ≤ k ∧ k ≤ 1048576) (hb : TB 9223372036854775807 (.sl false (L.map Slt.T))) : ∃ x : Int, ((-1 ≤ x ∧ x ≤ k) ∧ (0 ≤ x → TB 1048576 (.sl false (L.map Slt.T)))) ∧ Pure En 71 [.one (.sl false (L.map Slt.T)), .one (.int .i64 k)] [.one (.int .i64 x)] := by
 have hl : (L.map Slt.T).length = L.length := List.length_map ..
 obtain ⟨hm, hs⟩ := (B6 Slt.T Slt0).1 hb
 refine Pure.of_evX (st := []) Tryz.func71 rfl kb ?_
 refine B9 ?_
 refine br ?_ ?_ <;> intro h2_1
 ·first | exact ⟨-1, ⟨by omega, fun h => by omega⟩, B5 rfl rfl⟩ | exact ⟨a1, ⟨by omega, fun _ => (B6 Slt.T Slt0).2 ⟨by omega, fun j hj => q3 j (by omega)⟩⟩, B5 rfl rfl⟩
 ·refine C7 (fun (a : Nat × Int) => [.sl false false (L.map Slt.T), .int .i64 a.2, .unk, .unk, .unk, .int .i64 a.1]) (fun (a : Nat × Int) => a.1 ≤ L.length ∧ (0 ≤ a.2 ∧ a.2 ≤ k) ∧ (L.length : Int) ≤ k ∧ ∀ j, j < a.1 → TBs 1048576 (Slt.T (L.getD j Slt0))) (fun (a : Nat × Int) => L.length - a.1) (0, k - (L.map Slt.T).length) ?_ ?_ ?_
  ·exact ⟨Nat.zero_le _, by dsimp only; omega, by omega, fun j hj => absurd hj (Nat.not_lt_zero j)⟩
  ·(repeat first | exact LE.nil _ | refine LE.unk _ _ ?_ | refine LE.eq _ _ _ rfl ?_)
  intro ⟨i, a1⟩ hI ih
  obtain ⟨q0, q1, q2, q3⟩ := hI
  dsimp only at q0 q1 q2 q3 ⊢
  refine A4 (st := []) ?_
  refine br ?_ ?_ <;> intro h5_3
  ·(refine C0 (C4 (by first | rfl | assumption | (exact B3 Slt.T Slt0 (by omega))) rfl ?_))
   refine H6 (lz149 (L.getD i Slt0) a1 (by omega) (hs i (by omega))) rfl j2 ?_
   rintro y h7_5
   try dsimp only at h7_5
   refine br ?_ ?_ <;> intro h8_1
   ·first | exact ⟨-1, ⟨by omega, fun h => by omega⟩, B5 rfl rfl⟩ | exact ⟨a1, ⟨by omega, fun _ => (B6 Slt.T Slt0).2 ⟨by omega, fun j hj => q3 j (by omega)⟩⟩, B5 rfl rfl⟩
   ·refine B9 ?_
    exact P4 (ih (i + 1, y) ⟨by dsimp only; omega, by dsimp only; omega, by omega, fun j hj => by
     by_cases e : j = i
     ·subst e; exact h7_5.2 (by omega)
     ·exact q3 j (by dsimp only at hj; omega)⟩ (by dsimp only; omega)) (by (repeat first | exact LE.nil _ | refine LE.unk _ _ ?_ | refine LE.eq _ _ _ rfl ?_))
  ·first | exact ⟨-1, ⟨by omega, fun h => by omega⟩, B5 rfl rfl⟩ | exact ⟨a1, ⟨by omega, fun _ => (B6 Slt.T Slt0).2 ⟨by omega, fun j hj => q3 j (by omega)⟩⟩, B5 rfl rfl⟩
theorem lt156 (s : Slt) (hb : TBs 1048576 (Slt.T s)) : Pure En 156 [.agg (Slt.T s)] [.agg (Slt.T s)] := by
 obtain ⟨b0, b1, b2⟩ := Slt.tb.1 hb
 refine Pure.of_ev (st := []) Tryz.func156 rfl kb ?_
 refine A2 ?_
 (apply est (u := .str _) j3; exact Q0; rfl; exact j4; exact kb; rfl)
 refine A2 ?_
 refine C2 (lt15 s.pr b1) rfl rfl rfl ?_
 (apply est (u := .sl _ _ _) j3; exact Q0; rfl; exact j4; exact kb; rfl)
 refine A2 ?_
 refine C2 (lt15 s.cm b2) rfl rfl rfl ?_
 (apply est (u := .sl _ _ _) j3; exact Q0; rfl; exact j4; exact kb; rfl)
 refine A2 ?_
 refine brB ?_ ?_ <;> intro h5_1
 ·(apply est (u := .bool _) j3; exact Q0; rfl; exact j4; exact kb; rfl)
  refine A2 ?_
  refine brB ?_ ?_ <;> intro h6_1
  ·(apply est (u := .bool _) j3; exact Q0; rfl; exact j4; exact kb; rfl)
   (apply C5 (vs := [.str _, _, _, .bool _, .bool _]) j2; exact Q0; rfl; rfl; exact kb; rfl)
   (apply est (u := .agg [.str _, _, _, .bool _, .bool _]) j3; exact Q0; rfl; exact j4; exact kb; rfl)
   refine C6 [] (A0 (A3 (xs := (Slt.T s).map (T.toV true)) rfl (by exact Q0) j2 kb (by simp only [Slt.T, ‹s.se = _›, ‹s.dn = _›] <;> rfl)) A1) ?_
   exact SnapL.cons _ _ _ _ (SnapC.agg (F2 _)) SnapL.nil
  ·(apply est (u := .bool _) j3; exact Q0; rfl; exact j4; exact kb; rfl)
   (apply C5 (vs := [.str _, _, _, .bool _, .bool _]) j2; exact Q0; rfl; rfl; exact kb; rfl)
   (apply est (u := .agg [.str _, _, _, .bool _, .bool _]) j3; exact Q0; rfl; exact j4; exact kb; rfl)
   refine C6 [] (A0 (A3 (xs := (Slt.T s).map (T.toV true)) rfl (by exact Q0) j2 kb (by simp only [Slt.T, ‹s.se = _›, ‹s.dn = _›] <;> rfl)) A1) ?_
   exact SnapL.cons _ _ _ _ (SnapC.agg (F2 _)) SnapL.nil
 ·(apply est (u := .bool _) j3; exact Q0; rfl; exact j4; exact kb; rfl)
  refine A2 ?_
  refine brB ?_ ?_ <;> intro h6_1
  ·(apply est (u := .bool _) j3; exact Q0; rfl; exact j4; exact kb; rfl)
   (apply C5 (vs := [.str _, _, _, .bool _, .bool _]) j2; exact Q0; rfl; rfl; exact kb; rfl)
   (apply est (u := .agg [.str _, _, _, .bool _, .bool _]) j3; exact Q0; rfl; exact j4; exact kb; rfl)
   refine C6 [] (A0 (A3 (xs := (Slt.T s).map (T.toV true)) rfl (by exact Q0) j2 kb (by simp only [Slt.T, ‹s.se = _›, ‹s.dn = _›] <;> rfl)) A1) ?_
   exact SnapL.cons _ _ _ _ (SnapC.agg (F2 _)) SnapL.nil
  ·(apply est (u := .bool _) j3; exact Q0; rfl; exact j4; exact kb; rfl)
   (apply C5 (vs := [.str _, _, _, .bool _, .bool _]) j2; exact Q0; rfl; rfl; exact kb; rfl)
   (apply est (u := .agg [.str _, _, _, .bool _, .bool _]) j3; exact Q0; rfl; exact j4; exact kb; rfl)
   refine C6 [] (A0 (A3 (xs := (Slt.T s).map (T.toV true)) rfl (by exact Q0) j2 kb (by simp only [Slt.T, ‹s.se = _›, ‹s.dn = _›] <;> rfl)) A1) ?_
   exact SnapL.cons _ _ _ _ (SnapC.agg (F2 _)) SnapL.nil
theorem lt78 (L : List Slt) (hb : TB 1048576 (.sl false (L.map Slt.T))) : Pure En 78 [.one (.sl false (L.map Slt.T))] [.one (.sl false (L.map Slt.T))] := by
 have hl : (L.map Slt.T).length = L.length := List.length_map ..
 obtain ⟨hm, hs⟩ := (B6 Slt.T Slt0).1 hb
 refine Pure.of_ev (st := []) Tryz.func78 rfl kb ?_
 refine emk (s' := 72) j6 kz ?_ ?_ ?_
 ·exact Q8
 ·exact Q8
 refine B1 (fun (i : Nat) => [.sl false false (L.map Slt.T), .unk, .unk, .view 0 0 (L.map Slt.T).length, .int .i64 i]) (fun (i : Nat) => hp [(0, ⟨mkG (vT Slt.T) [.str ⟨#[]⟩, .nsl, .nsl, .bool false, .bool false] L i, 5, 80⟩)]) (fun (i : Nat) => 1) (fun (i : Nat) => i ≤ L.length) (fun (i : Nat) => L.length - i) 0 ?_ ?_ ?_ ?_ ?_
 ·exact Nat.zero_le _
 ·(repeat first | exact LE.nil _ | refine LE.unk _ _ ?_ | refine LE.eq _ _ _ rfl ?_)
 ·(repeat first | exact A5 | (refine A6 ?_ ?_; (first | exact Q0 | ((simp (disch := omega) only [↓app0, ↓appC, ↓updS, ↓updN, ↓hpS, ↓hpN]); exact congrArg (fun z => some (Blk.mk z 5 80)) (by rw [H1, ← hl]; rfl)))))
 ·exact Nat.le_refl _
 intro i hI ih
 refine A4 (st := []) ?_
 refine br ?_ ?_ <;> intro h3_3
 ·(refine C0 (C4 (by first | rfl | assumption | (exact B3 Slt.T Slt0 (by omega))) rfl ?_))
  refine C2 (lt156 (L.getD i Slt0) (hs i (by omega))) rfl rfl rfl ?_
  (refine G4 (by exact Q0) ⟨rfl, C0 ?_⟩)
  (apply est j3; exact Q0; exact J6 (vT Slt.T) [.str ⟨#[]⟩, .nsl, .nsl, .bool false, .bool false] (by omega); exact j4; exact kb; rfl)
  refine B9 ?_
  exact D1 (ih (i + 1) (by omega) (by omega)) (by (repeat first | exact LE.nil _ | refine LE.unk _ _ ?_ | refine LE.eq _ _ _ rfl ?_)) (by (repeat first | exact A5 | (refine A6 ?_ ?_; ((simp (disch := omega) only [↓app0, ↓appC, ↓updS, ↓updN, ↓hpS, ↓hpN]); exact congrArg (fun z => some (Blk.mk z 5 80)) (J7 (vT Slt.T) [.str ⟨#[]⟩, .nsl, .nsl, .bool false, .bool false] Slt0 (by omega)))))) (Nat.le_refl _)
 ·obtain rfl : i = L.length := by omega
  refine C6 [0] rfl ?_
  exact SnapL.cons _ _ _ _ (.one _ _ (H4 (sz := 5) (ty := 80) (by simp) (by (simp (disch := omega) only [↓app0, ↓appC, ↓updS, ↓updN, ↓hpS, ↓hpN]); exact congrArg (fun z => some (Blk.mk z 5 80)) (H2 (vT Slt.T) [.str ⟨#[]⟩, .nsl, .nsl, .bool false, .bool false] L)) hl)) SnapL.nil
theorem le162 (s : Slt) (hb : TBs 1048576 (Slt.T s)) : Pure En 162 [.agg (Slt.T s), .agg (Slt.T s)] [.one (.bool true)] := by
 obtain ⟨b0, b1, b2⟩ := Slt.tb.1 hb
 refine Pure.of_ev (st := []) Tryz.func162 rfl kb ?_
 refine A2 ?_
 refine A2 ?_
 refine br ?_ ?_ <;> intro h1_4
 ·first | exact B5 rfl rfl | contradiction | (exfalso; simp_all; done)
 ·refine A2 ?_
  refine A2 ?_
  refine C2 (le18 s.pr b1) rfl rfl rfl ?_
  refine A2 ?_
  refine A2 ?_
  refine C2 (le18 s.cm b2) rfl rfl rfl ?_
  refine A2 ?_
  refine brB ?_ ?_ <;> intro h7_1
  ·refine A2 ?_
   refine brB ?_ ?_ <;> intro h7_3
   ·refine A2 ?_
    refine brB ?_ ?_ <;> intro h9_1
    ·refine A2 ?_
     refine brB ?_ ?_ <;> intro h9_3
     ·first | exact B5 rfl rfl | contradiction | (exfalso; simp_all; done)
     ·first | exact B5 rfl rfl | contradiction | (exfalso; simp_all; done)
    ·refine A2 ?_
     refine brB ?_ ?_ <;> intro h9_3
     ·first | exact B5 rfl rfl | contradiction | (exfalso; simp_all; done)
     ·first | exact B5 rfl rfl | contradiction | (exfalso; simp_all; done)
   ·first | exact B5 rfl rfl | contradiction | (exfalso; simp_all; done)
  ·refine A2 ?_
   refine brB ?_ ?_ <;> intro h7_3
   ·first | exact B5 rfl rfl | contradiction | (exfalso; simp_all; done)
   ·refine A2 ?_
    refine brB ?_ ?_ <;> intro h9_1
    ·refine A2 ?_
     refine brB ?_ ?_ <;> intro h9_3
     ·first | exact B5 rfl rfl | contradiction | (exfalso; simp_all; done)
     ·first | exact B5 rfl rfl | contradiction | (exfalso; simp_all; done)
    ·refine A2 ?_
     refine brB ?_ ?_ <;> intro h9_3
     ·first | exact B5 rfl rfl | contradiction | (exfalso; simp_all; done)
     ·first | exact B5 rfl rfl | contradiction | (exfalso; simp_all; done)
theorem le87 (L : List Slt) (hb : TB 1048576 (.sl false (L.map Slt.T))) : Pure En 87 [.one (.sl false (L.map Slt.T)), .one (.sl false (L.map Slt.T))] [.one (.bool true)] := by
 have hl : (L.map Slt.T).length = L.length := List.length_map ..
 obtain ⟨hm, hs⟩ := (B6 Slt.T Slt0).1 hb
 refine Pure.of_ev (st := []) Tryz.func87 rfl kb ?_
 refine br ?_ ?_ <;> intro h1_4
 ·first | exact B5 rfl rfl | contradiction | (exfalso; simp_all; done)
 ·refine C7 (fun (i : Nat) => [.sl false false (L.map Slt.T), .sl false false (L.map Slt.T), .unk, .unk, .unk, .int .i64 i]) (fun (i : Nat) => i ≤ L.length) (fun (i : Nat) => L.length - i) 0 ?_ ?_ ?_
  ·exact Nat.zero_le _
  ·(repeat first | exact LE.nil _ | refine LE.unk _ _ ?_ | refine LE.eq _ _ _ rfl ?_)
  intro i hI ih
  refine A4 (st := []) ?_
  refine br ?_ ?_ <;> intro h4_3
  ·(refine C0 (C4 (by first | rfl | assumption | (exact B3 Slt.T Slt0 (by omega))) rfl ?_))
   (refine C0 (C4 (by first | rfl | assumption | (exact B3 Slt.T Slt0 (by omega))) rfl ?_))
   refine C2 (le162 (L.getD i Slt0) (hs i (by omega))) rfl rfl rfl ?_
   refine B9 ?_
   exact P4 (ih (i + 1) (by omega) (by omega)) (by (repeat first | exact LE.nil _ | refine LE.unk _ _ ?_ | refine LE.eq _ _ _ rfl ?_))
  ·first | exact B5 rfl rfl | contradiction | (exfalso; simp_all; done)
theorem lz26 (s : Rep) (k : Int) (hk : 0 ≤ k ∧ k ≤ 1048576) (hb : TBs 9223372036854775807 (Rep.T s)) : ∃ x : Int, ((-1 ≤ x ∧ x ≤ k) ∧ (0 ≤ x → TBs 1048576 (Rep.T s))) ∧ Pure En 26 [.agg (Rep.T s), .one (.int .i64 k)] [.one (.int .i64 x)] := by
 obtain ⟨b0, b1, b2, b3⟩ := Rep.tb.1 hb
 refine Pure.of_evX (st := []) Tryz.func26 rfl kb ?_
 refine A2 ?_
 refine H6 (lz71 s.sl (k) (by omega) b0) rfl j2 ?_
 rintro y0 h1_3
 try dsimp only at h1_3
 refine br ?_ ?_ <;> intro h2_1
 ·first | exact ⟨-1, ⟨by omega, fun h => by omega⟩, B5 rfl rfl⟩ | exact ⟨_, ⟨by omega, fun hx => Rep.tb.2 ⟨h1_3.2 (by omega), h4_3.2 (by omega), h7_3.2 (by omega), h10_3.2 (by omega)⟩⟩, B5 rfl rfl⟩
 ·refine A2 ?_
  refine H6 (lz72 s.cs (y0) (by omega) b1) rfl j2 ?_
  rintro y1 h4_3
  try dsimp only at h4_3
  refine br ?_ ?_ <;> intro h5_1
  ·first | exact ⟨-1, ⟨by omega, fun h => by omega⟩, B5 rfl rfl⟩ | exact ⟨_, ⟨by omega, fun hx => Rep.tb.2 ⟨h1_3.2 (by omega), h4_3.2 (by omega), h7_3.2 (by omega), h10_3.2 (by omega)⟩⟩, B5 rfl rfl⟩
  ·refine A2 ?_
   refine H6 (lz73 s.lg (y1) (by omega) b2) rfl j2 ?_
   rintro y2 h7_3
   try dsimp only at h7_3
   refine br ?_ ?_ <;> intro h8_1
   ·first | exact ⟨-1, ⟨by omega, fun h => by omega⟩, B5 rfl rfl⟩ | exact ⟨_, ⟨by omega, fun hx => Rep.tb.2 ⟨h1_3.2 (by omega), h4_3.2 (by omega), h7_3.2 (by omega), h10_3.2 (by omega)⟩⟩, B5 rfl rfl⟩
   ·refine A2 ?_
    refine H6 (lz13 s.ch (y2) (by omega) b3) rfl j2 ?_
    rintro y3 h10_3
    try dsimp only at h10_3
    refine br ?_ ?_ <;> intro h11_1
    ·first | exact ⟨-1, ⟨by omega, fun h => by omega⟩, B5 rfl rfl⟩ | exact ⟨_, ⟨by omega, fun hx => Rep.tb.2 ⟨h1_3.2 (by omega), h4_3.2 (by omega), h7_3.2 (by omega), h10_3.2 (by omega)⟩⟩, B5 rfl rfl⟩
    ·first | exact ⟨-1, ⟨by omega, fun h => by omega⟩, B5 rfl rfl⟩ | exact ⟨_, ⟨by omega, fun hx => Rep.tb.2 ⟨h1_3.2 (by omega), h4_3.2 (by omega), h7_3.2 (by omega), h10_3.2 (by omega)⟩⟩, B5 rfl rfl⟩
theorem lz90 (L : List Rep) (k : Int) (hk : 0 ≤ k ∧ k ≤ 1048576) (hb : TB 9223372036854775807 (.sl false (L.map Rep.T))) : ∃ x : Int, ((-1 ≤ x ∧ x ≤ k) ∧ (0 ≤ x → TB 1048576 (.sl false (L.map Rep.T)))) ∧ Pure En 90 [.one (.sl false (L.map Rep.T)), .one (.int .i64 k)] [.one (.int .i64 x)] := by
 have hl : (L.map Rep.T).length = L.length := List.length_map ..
 obtain ⟨hm, hs⟩ := (B6 Rep.T Rep0).1 hb
 refine Pure.of_evX (st := []) Tryz.func90 rfl kb ?_
 refine B9 ?_
 refine br ?_ ?_ <;> intro h2_1
 ·first | exact ⟨-1, ⟨by omega, fun h => by omega⟩, B5 rfl rfl⟩ | exact ⟨a1, ⟨by omega, fun _ => (B6 Rep.T Rep0).2 ⟨by omega, fun j hj => q3 j (by omega)⟩⟩, B5 rfl rfl⟩
 ·refine C7 (fun (a : Nat × Int) => [.sl false false (L.map Rep.T), .int .i64 a.2, .unk, .unk, .unk, .int .i64 a.1]) (fun (a : Nat × Int) => a.1 ≤ L.length ∧ (0 ≤ a.2 ∧ a.2 ≤ k) ∧ (L.length : Int) ≤ k ∧ ∀ j, j < a.1 → TBs 1048576 (Rep.T (L.getD j Rep0))) (fun (a : Nat × Int) => L.length - a.1) (0, k - (L.map Rep.T).length) ?_ ?_ ?_
  ·exact ⟨Nat.zero_le _, by dsimp only; omega, by omega, fun j hj => absurd hj (Nat.not_lt_zero j)⟩
  ·(repeat first | exact LE.nil _ | refine LE.unk _ _ ?_ | refine LE.eq _ _ _ rfl ?_)
  intro ⟨i, a1⟩ hI ih
  obtain ⟨q0, q1, q2, q3⟩ := hI
  dsimp only at q0 q1 q2 q3 ⊢
  refine A4 (st := []) ?_
  refine br ?_ ?_ <;> intro h5_3
  ·(refine C0 (C4 (by first | rfl | assumption | (exact B3 Rep.T Rep0 (by omega))) rfl ?_))
   refine H6 (lz26 (L.getD i Rep0) a1 (by omega) (hs i (by omega))) rfl j2 ?_
   rintro y h7_5
   try dsimp only at h7_5
   refine br ?_ ?_ <;> intro h8_1
   ·first | exact ⟨-1, ⟨by omega, fun h => by omega⟩, B5 rfl rfl⟩ | exact ⟨a1, ⟨by omega, fun _ => (B6 Rep.T Rep0).2 ⟨by omega, fun j hj => q3 j (by omega)⟩⟩, B5 rfl rfl⟩
   ·refine B9 ?_
    exact P4 (ih (i + 1, y) ⟨by dsimp only; omega, by dsimp only; omega, by omega, fun j hj => by
     by_cases e : j = i
     ·subst e; exact h7_5.2 (by omega)
     ·exact q3 j (by dsimp only at hj; omega)⟩ (by dsimp only; omega)) (by (repeat first | exact LE.nil _ | refine LE.unk _ _ ?_ | refine LE.eq _ _ _ rfl ?_))
  ·first | exact ⟨-1, ⟨by omega, fun h => by omega⟩, B5 rfl rfl⟩ | exact ⟨a1, ⟨by omega, fun _ => (B6 Rep.T Rep0).2 ⟨by omega, fun j hj => q3 j (by omega)⟩⟩, B5 rfl rfl⟩
theorem lt28 (s : Rep) (hb : TBs 1048576 (Rep.T s)) : Pure En 28 [.agg (Rep.T s)] [.agg (Rep.T s)] := by
 obtain ⟨b0, b1, b2, b3⟩ := Rep.tb.1 hb
 refine Pure.of_ev (st := []) Tryz.func28 rfl kb ?_
 refine A2 ?_
 (apply est (u := .int _ _) j3; exact Q0; rfl; exact j4; exact kb; rfl)
 refine A2 ?_
 (apply est (u := .int _ _) j3; exact Q0; rfl; exact j4; exact kb; rfl)
 refine A2 ?_
 (apply est (u := .int _ _) j3; exact Q0; rfl; exact j4; exact kb; rfl)
 refine A2 ?_
 refine brB ?_ ?_ <;> intro h5_1
 ·(apply est (u := .bool _) j3; exact Q0; rfl; exact j4; exact kb; rfl)
  refine A2 ?_
  refine C2 (lt78 s.sl b0) rfl rfl rfl ?_
  (apply est (u := .sl _ _ _) j3; exact Q0; rfl; exact j4; exact kb; rfl)
  refine A2 ?_
  refine C2 (lt79 s.cs b1) rfl rfl rfl ?_
  (apply est (u := .sl _ _ _) j3; exact Q0; rfl; exact j4; exact kb; rfl)
  refine A2 ?_
  refine C2 (lt80 s.lg b2) rfl rfl rfl ?_
  (apply est (u := .sl _ _ _) j3; exact Q0; rfl; exact j4; exact kb; rfl)
  refine A2 ?_
  refine C2 (lt15 s.ch b3) rfl rfl rfl ?_
  (apply est (u := .sl _ _ _) j3; exact Q0; rfl; exact j4; exact kb; rfl)
  (apply C5 (vs := [.int _ _, .int _ _, .int _ _, .bool _, _, _, _, _]) j2; exact Q0; rfl; rfl; exact kb; rfl)
  (apply est (u := .agg [.int _ _, .int _ _, .int _ _, .bool _, _, _, _, _]) j3; exact Q0; rfl; exact j4; exact kb; rfl)
  refine C6 [] (A0 (A3 (xs := (Rep.T s).map (T.toV true)) rfl (by exact Q0) j2 kb (by simp only [Rep.T, ‹s.ac = _›] <;> rfl)) A1) ?_
  exact SnapL.cons _ _ _ _ (SnapC.agg (F2 _)) SnapL.nil
 ·(apply est (u := .bool _) j3; exact Q0; rfl; exact j4; exact kb; rfl)
  refine A2 ?_
  refine C2 (lt78 s.sl b0) rfl rfl rfl ?_
  (apply est (u := .sl _ _ _) j3; exact Q0; rfl; exact j4; exact kb; rfl)
  refine A2 ?_
  refine C2 (lt79 s.cs b1) rfl rfl rfl ?_
  (apply est (u := .sl _ _ _) j3; exact Q0; rfl; exact j4; exact kb; rfl)
  refine A2 ?_
  refine C2 (lt80 s.lg b2) rfl rfl rfl ?_
  (apply est (u := .sl _ _ _) j3; exact Q0; rfl; exact j4; exact kb; rfl)
  refine A2 ?_
  refine C2 (lt15 s.ch b3) rfl rfl rfl ?_
  (apply est (u := .sl _ _ _) j3; exact Q0; rfl; exact j4; exact kb; rfl)
  (apply C5 (vs := [.int _ _, .int _ _, .int _ _, .bool _, _, _, _, _]) j2; exact Q0; rfl; rfl; exact kb; rfl)
  (apply est (u := .agg [.int _ _, .int _ _, .int _ _, .bool _, _, _, _, _]) j3; exact Q0; rfl; exact j4; exact kb; rfl)
  refine C6 [] (A0 (A3 (xs := (Rep.T s).map (T.toV true)) rfl (by exact Q0) j2 kb (by simp only [Rep.T, ‹s.ac = _›] <;> rfl)) A1) ?_
  exact SnapL.cons _ _ _ _ (SnapC.agg (F2 _)) SnapL.nil
theorem lt95 (L : List Rep) (hb : TB 1048576 (.sl false (L.map Rep.T))) : Pure En 95 [.one (.sl false (L.map Rep.T))] [.one (.sl false (L.map Rep.T))] := by
 have hl : (L.map Rep.T).length = L.length := List.length_map ..
 obtain ⟨hm, hs⟩ := (B6 Rep.T Rep0).1 hb
 refine Pure.of_ev (st := []) Tryz.func95 rfl kb ?_
 refine emk (s' := 128) j6 kz ?_ ?_ ?_
 ·exact Q8
 ·exact Q8
 refine B1 (fun (i : Nat) => [.sl false false (L.map Rep.T), .unk, .unk, .view 0 0 (L.map Rep.T).length, .int .i64 i]) (fun (i : Nat) => hp [(0, ⟨mkG (vT Rep.T) [.int .i64 0, .int .i64 0, .int .i64 0, .bool false, .nsl, .nsl, .nsl, .nsl] L i, 8, 54⟩)]) (fun (i : Nat) => 1) (fun (i : Nat) => i ≤ L.length) (fun (i : Nat) => L.length - i) 0 ?_ ?_ ?_ ?_ ?_
 ·exact Nat.zero_le _
 ·(repeat first | exact LE.nil _ | refine LE.unk _ _ ?_ | refine LE.eq _ _ _ rfl ?_)
 ·(repeat first | exact A5 | (refine A6 ?_ ?_; (first | exact Q0 | ((simp (disch := omega) only [↓app0, ↓appC, ↓updS, ↓updN, ↓hpS, ↓hpN]); exact congrArg (fun z => some (Blk.mk z 8 54)) (by rw [H1, ← hl]; rfl)))))
 ·exact Nat.le_refl _
 intro i hI ih
 refine A4 (st := []) ?_
 refine br ?_ ?_ <;> intro h3_3
 ·(refine C0 (C4 (by first | rfl | assumption | (exact B3 Rep.T Rep0 (by omega))) rfl ?_))
  refine C2 (lt28 (L.getD i Rep0) (hs i (by omega))) rfl rfl rfl ?_
  (refine G4 (by exact Q0) ⟨rfl, C0 ?_⟩)
  (apply est j3; exact Q0; exact J6 (vT Rep.T) [.int .i64 0, .int .i64 0, .int .i64 0, .bool false, .nsl, .nsl, .nsl, .nsl] (by omega); exact j4; exact kb; rfl)
  refine B9 ?_
  exact D1 (ih (i + 1) (by omega) (by omega)) (by (repeat first | exact LE.nil _ | refine LE.unk _ _ ?_ | refine LE.eq _ _ _ rfl ?_)) (by (repeat first | exact A5 | (refine A6 ?_ ?_; ((simp (disch := omega) only [↓app0, ↓appC, ↓updS, ↓updN, ↓hpS, ↓hpN]); exact congrArg (fun z => some (Blk.mk z 8 54)) (J7 (vT Rep.T) [.int .i64 0, .int .i64 0, .int .i64 0, .bool false, .nsl, .nsl, .nsl, .nsl] Rep0 (by omega)))))) (Nat.le_refl _)
 ·obtain rfl : i = L.length := by omega
  refine C6 [0] rfl ?_
  exact SnapL.cons _ _ _ _ (.one _ _ (H4 (sz := 8) (ty := 54) (by simp) (by (simp (disch := omega) only [↓app0, ↓appC, ↓updS, ↓updN, ↓hpS, ↓hpN]); exact congrArg (fun z => some (Blk.mk z 8 54)) (H2 (vT Rep.T) [.int .i64 0, .int .i64 0, .int .i64 0, .bool false, .nsl, .nsl, .nsl, .nsl] L)) hl)) SnapL.nil
theorem le30 (s : Rep) (hb : TBs 1048576 (Rep.T s)) : Pure En 30 [.agg (Rep.T s), .agg (Rep.T s)] [.one (.bool true)] := by
 obtain ⟨b0, b1, b2, b3⟩ := Rep.tb.1 hb
 refine Pure.of_ev (st := []) Tryz.func30 rfl kb ?_
 refine A2 ?_
 refine A2 ?_
 refine br ?_ ?_ <;> intro h1_4
 ·first | exact B5 rfl rfl | contradiction | (exfalso; simp_all; done)
 ·refine A2 ?_
  refine A2 ?_
  refine br ?_ ?_ <;> intro h3_4
  ·first | exact B5 rfl rfl | contradiction | (exfalso; simp_all; done)
  ·refine A2 ?_
   refine A2 ?_
   refine br ?_ ?_ <;> intro h5_4
   ·first | exact B5 rfl rfl | contradiction | (exfalso; simp_all; done)
   ·refine A2 ?_
    refine brB ?_ ?_ <;> intro h7_1
    ·refine A2 ?_
     refine brB ?_ ?_ <;> intro h7_3
     ·refine A2 ?_
      refine A2 ?_
      refine C2 (le87 s.sl b0) rfl rfl rfl ?_
      refine A2 ?_
      refine A2 ?_
      refine C2 (le88 s.cs b1) rfl rfl rfl ?_
      refine A2 ?_
      refine A2 ?_
      refine C2 (le17 s.lg b2) rfl rfl rfl ?_
      refine A2 ?_
      refine A2 ?_
      refine C2 (le18 s.ch b3) rfl rfl rfl ?_
      first | exact B5 rfl rfl | contradiction | (exfalso; simp_all; done)
     ·first | exact B5 rfl rfl | contradiction | (exfalso; simp_all; done)
    ·refine A2 ?_
     refine brB ?_ ?_ <;> intro h7_3
     ·first | exact B5 rfl rfl | contradiction | (exfalso; simp_all; done)
     ·refine A2 ?_
      refine A2 ?_
      refine C2 (le87 s.sl b0) rfl rfl rfl ?_
      refine A2 ?_
      refine A2 ?_
      refine C2 (le88 s.cs b1) rfl rfl rfl ?_
      refine A2 ?_
      refine A2 ?_
      refine C2 (le17 s.lg b2) rfl rfl rfl ?_
      refine A2 ?_
      refine A2 ?_
      refine C2 (le18 s.ch b3) rfl rfl rfl ?_
      first | exact B5 rfl rfl | contradiction | (exfalso; simp_all; done)
theorem le101 (L : List Rep) (hb : TB 1048576 (.sl false (L.map Rep.T))) : Pure En 101 [.one (.sl false (L.map Rep.T)), .one (.sl false (L.map Rep.T))] [.one (.bool true)] := by
 have hl : (L.map Rep.T).length = L.length := List.length_map ..
 obtain ⟨hm, hs⟩ := (B6 Rep.T Rep0).1 hb
 refine Pure.of_ev (st := []) Tryz.func101 rfl kb ?_
 refine br ?_ ?_ <;> intro h1_4
 ·first | exact B5 rfl rfl | contradiction | (exfalso; simp_all; done)
 ·refine C7 (fun (i : Nat) => [.sl false false (L.map Rep.T), .sl false false (L.map Rep.T), .unk, .unk, .unk, .int .i64 i]) (fun (i : Nat) => i ≤ L.length) (fun (i : Nat) => L.length - i) 0 ?_ ?_ ?_
  ·exact Nat.zero_le _
  ·(repeat first | exact LE.nil _ | refine LE.unk _ _ ?_ | refine LE.eq _ _ _ rfl ?_)
  intro i hI ih
  refine A4 (st := []) ?_
  refine br ?_ ?_ <;> intro h4_3
  ·(refine C0 (C4 (by first | rfl | assumption | (exact B3 Rep.T Rep0 (by omega))) rfl ?_))
   (refine C0 (C4 (by first | rfl | assumption | (exact B3 Rep.T Rep0 (by omega))) rfl ?_))
   refine C2 (le30 (L.getD i Rep0) (hs i (by omega))) rfl rfl rfl ?_
   refine B9 ?_
   exact P4 (ih (i + 1) (by omega) (by omega)) (by (repeat first | exact LE.nil _ | refine LE.unk _ _ ?_ | refine LE.eq _ _ _ rfl ?_))
  ·first | exact B5 rfl rfl | contradiction | (exfalso; simp_all; done)
open Go Go.V
set_option linter.unusedVariables false
set_option linter.unusedSimpArgs false
set_option maxRecDepth 20000
set_option maxHeartbeats 4000000
structure Pc where
 to : Int
 ms : Msg
def Pc.T (s : Pc) : List V.T := .int .i64 s.to :: Msg.T s.ms ++ ([])
def Pc0 : Pc := ⟨0, Msg0⟩
def shPc : List Sh := .int .i64 :: shMsg ++ ([])
theorem shPc_inv {xs : List V.T} (h : Shs xs shPc) : ∃ s : Pc, xs = Pc.T s := by
 obtain ⟨_, _, rfl, g0, k0⟩ := C1 h; obtain ⟨a0, rfl⟩ := I4 g0
 obtain ⟨_, _, rfl, g1, k1⟩ := sh_app k0; obtain ⟨a1, rfl⟩ := G9 g1
 obtain rfl := K8 k1
 exact ⟨⟨a0, a1⟩, rfl⟩
theorem Pc.tb {B : Nat} {s : Pc} : TBs B (Pc.T s) ↔ TBs B (Msg.T s.ms) := by
 simp only [Pc.T, D8, L4, G7, K7, K6, I0, true_and, and_true]
structure Grp where
 nd : Int
 fa : List Int
 rs : List Rep
 wi : List Pc
 se : List Msg
def Grp.T (s : Grp) : List V.T := .int .i64 s.nd :: .sl false (s.fa.map iT) :: .sl false (s.rs.map Rep.T) :: .sl false (s.wi.map Pc.T) :: .sl false (s.se.map Msg.T) :: []
def Grp0 : Grp := ⟨0, [], [], [], []⟩
def shGrp : List Sh := .int .i64 :: .sl shInt :: .sl shRep :: .sl shPc :: .sl shMsg :: []
theorem shGrp_inv {xs : List V.T} (h : Shs xs shGrp) : ∃ s : Grp, xs = Grp.T s := by
 obtain ⟨_, _, rfl, g0, k0⟩ := C1 h; obtain ⟨a0, rfl⟩ := I4 g0
 obtain ⟨_, _, rfl, g1, k1⟩ := C1 k0; obtain ⟨a1, rfl⟩ := H3 (f := iT) g1 (fun _ h => shInt_inv h)
 obtain ⟨_, _, rfl, g2, k2⟩ := C1 k1; obtain ⟨a2, rfl⟩ := H3 (f := Rep.T) g2 (fun _ h => shRep_inv h)
 obtain ⟨_, _, rfl, g3, k3⟩ := C1 k2; obtain ⟨a3, rfl⟩ := H3 (f := Pc.T) g3 (fun _ h => shPc_inv h)
 obtain ⟨_, _, rfl, g4, k4⟩ := C1 k3; obtain ⟨a4, rfl⟩ := H3 (f := Msg.T) g4 (fun _ h => G9 h)
 obtain rfl := K8 k4
 exact ⟨⟨a0, a1, a2, a3, a4⟩, rfl⟩
theorem Grp.tb {B : Nat} {s : Grp} : TBs B (Grp.T s) ↔ TB B (.sl false (s.fa.map iT)) ∧ TB B (.sl false (s.rs.map Rep.T)) ∧ TB B (.sl false (s.wi.map Pc.T)) ∧ TB B (.sl false (s.se.map Msg.T)) := by
 simp only [Grp.T, D8, L4, G7, K7, K6, I0, true_and, and_true]
theorem lz89 (L : List Int) (k : Int) (hk : 0 ≤ k ∧ k ≤ 1048576) (hb : TB 9223372036854775807 (.sl false (L.map iT))) : ∃ x : Int, ((-1 ≤ x ∧ x ≤ k) ∧ (0 ≤ x → TB 1048576 (.sl false (L.map iT)))) ∧ Pure En 89 [.one (.sl false (L.map iT)), .one (.int .i64 k)] [.one (.int .i64 x)] := by
 have hl : (L.map iT).length = L.length := List.length_map ..
 obtain ⟨hm, hs⟩ := (B6 iT (0 : Int)).1 hb
 refine Pure.of_evX (st := []) Tryz.func89 rfl kb ?_
 refine B9 ?_
 refine br ?_ ?_ <;> intro h2_1
 ·first | exact ⟨-1, ⟨by omega, fun h => by omega⟩, B5 rfl rfl⟩ | exact ⟨_, ⟨by omega, fun hx => (B6 iT (0 : Int)).2 ⟨by omega, fun j hj => by simp only [iT, D8, G7, K6, I0, true_and]⟩⟩, B5 rfl rfl⟩
 ·first | exact ⟨-1, ⟨by omega, fun h => by omega⟩, B5 rfl rfl⟩ | exact ⟨_, ⟨by omega, fun hx => (B6 iT (0 : Int)).2 ⟨by omega, fun j hj => by simp only [iT, D8, G7, K6, I0, true_and]⟩⟩, B5 rfl rfl⟩
theorem lt94 (L : List Int) (hb : TB 1048576 (.sl false (L.map iT))) : Pure En 94 [.one (.sl false (L.map iT))] [.one (.sl false (L.map iT))] := by
 have hl : (L.map iT).length = L.length := List.length_map ..
 obtain ⟨hm, hs⟩ := (B6 iT (0 : Int)).1 hb
 refine Pure.of_ev (st := []) Tryz.func94 rfl kb ?_
 refine emk (s' := 8) j6 kz ?_ ?_ ?_
 ·exact Q8
 ·exact Q8
 refine B1 (fun (i : Nat) => [.sl false false (L.map iT), .unk, .unk, .view 0 0 (L.map iT).length, .int .i64 i]) (fun (i : Nat) => hp [(0, ⟨mkG (vT iT) [.int .i64 0] L i, 1, 3⟩)]) (fun (i : Nat) => 1) (fun (i : Nat) => i ≤ L.length) (fun (i : Nat) => L.length - i) 0 ?_ ?_ ?_ ?_ ?_
 ·exact Nat.zero_le _
 ·(repeat first | exact LE.nil _ | refine LE.unk _ _ ?_ | refine LE.eq _ _ _ rfl ?_)
 ·(repeat first | exact A5 | (refine A6 ?_ ?_; (first | exact Q0 | ((simp (disch := omega) only [↓app0, ↓appC, ↓updS, ↓updN, ↓hpS, ↓hpN]); exact congrArg (fun z => some (Blk.mk z 1 3)) (by rw [H1, ← hl]; rfl)))))
 ·exact Nat.le_refl _
 intro i hI ih
 refine A4 (st := []) ?_
 refine br ?_ ?_ <;> intro h3_3
 ·(refine C0 (C4 (by first | rfl | assumption | (exact B3 iT (0 : Int) (by omega))) rfl ?_))
  (refine G4 (by exact Q0) ⟨rfl, C0 ?_⟩)
  (apply est j3; exact Q0; exact J6 (vT iT) [.int .i64 0] (by omega); exact j4; exact kb; rfl)
  refine B9 ?_
  exact D1 (ih (i + 1) (by omega) (by omega)) (by (repeat first | exact LE.nil _ | refine LE.unk _ _ ?_ | refine LE.eq _ _ _ rfl ?_)) (by (repeat first | exact A5 | (refine A6 ?_ ?_; ((simp (disch := omega) only [↓app0, ↓appC, ↓updS, ↓updN, ↓hpS, ↓hpN]); exact congrArg (fun z => some (Blk.mk z 1 3)) (J7 (vT iT) [.int .i64 0] (0 : Int) (by omega)))))) (Nat.le_refl _)
 ·obtain rfl : i = L.length := by omega
  refine C6 [0] rfl ?_
  exact SnapL.cons _ _ _ _ (.one _ _ (H4 (sz := 1) (ty := 3) (by simp) (by (simp (disch := omega) only [↓app0, ↓appC, ↓updS, ↓updN, ↓hpS, ↓hpN]); exact congrArg (fun z => some (Blk.mk z 1 3)) (H2 (vT iT) [.int .i64 0] L)) hl)) SnapL.nil
theorem le100 (L : List Int) (hb : TB 1048576 (.sl false (L.map iT))) : Pure En 100 [.one (.sl false (L.map iT)), .one (.sl false (L.map iT))] [.one (.bool true)] := by
 have hl : (L.map iT).length = L.length := List.length_map ..
 obtain ⟨hm, hs⟩ := (B6 iT (0 : Int)).1 hb
 refine Pure.of_ev (st := []) Tryz.func100 rfl kb ?_
 refine br ?_ ?_ <;> intro h1_4
 ·first | exact B5 rfl rfl | contradiction | (exfalso; simp_all; done)
 ·refine C7 (fun (i : Nat) => [.sl false false (L.map iT), .sl false false (L.map iT), .unk, .unk, .unk, .int .i64 i]) (fun (i : Nat) => i ≤ L.length) (fun (i : Nat) => L.length - i) 0 ?_ ?_ ?_
  ·exact Nat.zero_le _
  ·(repeat first | exact LE.nil _ | refine LE.unk _ _ ?_ | refine LE.eq _ _ _ rfl ?_)
  intro i hI ih
  refine A4 (st := []) ?_
  refine br ?_ ?_ <;> intro h4_3
  ·(refine C0 (C4 (by first | rfl | assumption | (exact B3 iT (0 : Int) (by omega))) rfl ?_))
   (refine C0 (C4 (by first | rfl | assumption | (exact B3 iT (0 : Int) (by omega))) rfl ?_))
   refine br ?_ ?_ <;> intro h6_8
   ·first | exact B5 rfl rfl | contradiction | (exfalso; simp_all; done)
   ·refine B9 ?_
    exact P4 (ih (i + 1) (by omega) (by omega)) (by (repeat first | exact LE.nil _ | refine LE.unk _ _ ?_ | refine LE.eq _ _ _ rfl ?_))
  ·first | exact B5 rfl rfl | contradiction | (exfalso; simp_all; done)
theorem lz164 (s : Pc) (k : Int) (hk : 0 ≤ k ∧ k ≤ 1048576) (hb : TBs 9223372036854775807 (Pc.T s)) : ∃ x : Int, ((-1 ≤ x ∧ x ≤ k) ∧ (0 ≤ x → TBs 1048576 (Pc.T s))) ∧ Pure En 164 [.agg (Pc.T s), .one (.int .i64 k)] [.one (.int .i64 x)] := by
 have b0 := Pc.tb.1 hb
 refine Pure.of_evX (st := []) Tryz.func164 rfl kb ?_
 (apply C5 (vs := [.int _ _, .int _ _, .int _ _, .int _ _, .str _, .str _, .str _]) j2; exact Q0; rfl; rfl; exact kb; rfl)
 refine H6 (lz56 s.ms (k) (by omega) b0) rfl j2 ?_
 rintro y0 h1_3
 try dsimp only at h1_3
 refine br ?_ ?_ <;> intro h2_1
 ·first | exact ⟨-1, ⟨by omega, fun h => by omega⟩, B5 rfl rfl⟩ | exact ⟨_, ⟨by omega, fun hx => Pc.tb.2 (h1_3.2 (by omega))⟩, B5 rfl rfl⟩
 ·first | exact ⟨-1, ⟨by omega, fun h => by omega⟩, B5 rfl rfl⟩ | exact ⟨_, ⟨by omega, fun hx => Pc.tb.2 (h1_3.2 (by omega))⟩, B5 rfl rfl⟩
theorem lz91 (L : List Pc) (k : Int) (hk : 0 ≤ k ∧ k ≤ 1048576) (hb : TB 9223372036854775807 (.sl false (L.map Pc.T))) : ∃ x : Int, ((-1 ≤ x ∧ x ≤ k) ∧ (0 ≤ x → TB 1048576 (.sl false (L.map Pc.T)))) ∧ Pure En 91 [.one (.sl false (L.map Pc.T)), .one (.int .i64 k)] [.one (.int .i64 x)] := by
 have hl : (L.map Pc.T).length = L.length := List.length_map ..
 obtain ⟨hm, hs⟩ := (B6 Pc.T Pc0).1 hb
 refine Pure.of_evX (st := []) Tryz.func91 rfl kb ?_
 refine B9 ?_
 refine br ?_ ?_ <;> intro h2_1
 ·first | exact ⟨-1, ⟨by omega, fun h => by omega⟩, B5 rfl rfl⟩ | exact ⟨a1, ⟨by omega, fun _ => (B6 Pc.T Pc0).2 ⟨by omega, fun j hj => q3 j (by omega)⟩⟩, B5 rfl rfl⟩
 ·refine C7 (fun (a : Nat × Int) => [.sl false false (L.map Pc.T), .int .i64 a.2, .unk, .unk, .unk, .int .i64 a.1]) (fun (a : Nat × Int) => a.1 ≤ L.length ∧ (0 ≤ a.2 ∧ a.2 ≤ k) ∧ (L.length : Int) ≤ k ∧ ∀ j, j < a.1 → TBs 1048576 (Pc.T (L.getD j Pc0))) (fun (a : Nat × Int) => L.length - a.1) (0, k - (L.map Pc.T).length) ?_ ?_ ?_
  ·exact ⟨Nat.zero_le _, by dsimp only; omega, by omega, fun j hj => absurd hj (Nat.not_lt_zero j)⟩
  ·(repeat first | exact LE.nil _ | refine LE.unk _ _ ?_ | refine LE.eq _ _ _ rfl ?_)
  intro ⟨i, a1⟩ hI ih
  obtain ⟨q0, q1, q2, q3⟩ := hI
  dsimp only at q0 q1 q2 q3 ⊢
  refine A4 (st := []) ?_
  refine br ?_ ?_ <;> intro h5_3
  ·(refine C0 (C4 (by first | rfl | assumption | (exact B3 Pc.T Pc0 (by omega))) rfl ?_))
   refine H6 (lz164 (L.getD i Pc0) a1 (by omega) (hs i (by omega))) rfl j2 ?_
   rintro y h7_5
   try dsimp only at h7_5
   refine br ?_ ?_ <;> intro h8_1
   ·first | exact ⟨-1, ⟨by omega, fun h => by omega⟩, B5 rfl rfl⟩ | exact ⟨a1, ⟨by omega, fun _ => (B6 Pc.T Pc0).2 ⟨by omega, fun j hj => q3 j (by omega)⟩⟩, B5 rfl rfl⟩
   ·refine B9 ?_
    exact P4 (ih (i + 1, y) ⟨by dsimp only; omega, by dsimp only; omega, by omega, fun j hj => by
     by_cases e : j = i
     ·subst e; exact h7_5.2 (by omega)
     ·exact q3 j (by dsimp only at hj; omega)⟩ (by dsimp only; omega)) (by (repeat first | exact LE.nil _ | refine LE.unk _ _ ?_ | refine LE.eq _ _ _ rfl ?_))
  ·first | exact ⟨-1, ⟨by omega, fun h => by omega⟩, B5 rfl rfl⟩ | exact ⟨a1, ⟨by omega, fun _ => (B6 Pc.T Pc0).2 ⟨by omega, fun j hj => q3 j (by omega)⟩⟩, B5 rfl rfl⟩
theorem lt168 (s : Pc) (hb : TBs 1048576 (Pc.T s)) : Pure En 168 [.agg (Pc.T s)] [.agg (Pc.T s)] := by
 have b0 := Pc.tb.1 hb
 refine Pure.of_ev (st := []) Tryz.func168 rfl kb ?_
 refine A2 ?_
 (apply est (u := .int _ _) j3; exact Q0; rfl; exact j4; exact kb; rfl)
 (apply C5 (vs := [.int _ _, .int _ _, .int _ _, .int _ _, .str _, .str _, .str _]) j2; exact Q0; rfl; rfl; exact kb; rfl)
 refine C2 (lt61 s.ms b0) rfl rfl rfl ?_
 (apply est (u := .agg [.int _ _, .int _ _, .int _ _, .int _ _, .str _, .str _, .str _]) j3; exact Q0; rfl; exact j4; exact kb; rfl)
 (apply C5 (vs := [.int _ _, .int _ _, .int _ _, .int _ _, .int _ _, .str _, .str _, .str _]) j2; exact Q0; rfl; rfl; exact kb; rfl)
 (apply est (u := .agg [.int _ _, .int _ _, .int _ _, .int _ _, .int _ _, .str _, .str _, .str _]) j3; exact Q0; rfl; exact j4; exact kb; rfl)
 refine C6 [] (A0 (A3 (xs := (Pc.T s).map (T.toV true)) rfl (by exact Q0) j2 kb rfl) A1) ?_
 exact SnapL.cons _ _ _ _ (SnapC.agg (F2 _)) SnapL.nil
theorem lt96 (L : List Pc) (hb : TB 1048576 (.sl false (L.map Pc.T))) : Pure En 96 [.one (.sl false (L.map Pc.T))] [.one (.sl false (L.map Pc.T))] := by
 have hl : (L.map Pc.T).length = L.length := List.length_map ..
 obtain ⟨hm, hs⟩ := (B6 Pc.T Pc0).1 hb
 refine Pure.of_ev (st := []) Tryz.func96 rfl kb ?_
 refine emk (s' := 88) j6 kz ?_ ?_ ?_
 ·exact Q8
 ·exact Q8
 refine B1 (fun (i : Nat) => [.sl false false (L.map Pc.T), .unk, .unk, .view 0 0 (L.map Pc.T).length, .int .i64 i]) (fun (i : Nat) => hp [(0, ⟨mkG (vT Pc.T) [.int .i64 0, .int .i64 0, .int .i64 0, .int .i64 0, .int .i64 0, .str ⟨#[]⟩, .str ⟨#[]⟩, .str ⟨#[]⟩] L i, 8, 130⟩)]) (fun (i : Nat) => 1) (fun (i : Nat) => i ≤ L.length) (fun (i : Nat) => L.length - i) 0 ?_ ?_ ?_ ?_ ?_
 ·exact Nat.zero_le _
 ·(repeat first | exact LE.nil _ | refine LE.unk _ _ ?_ | refine LE.eq _ _ _ rfl ?_)
 ·(repeat first | exact A5 | (refine A6 ?_ ?_; (first | exact Q0 | ((simp (disch := omega) only [↓app0, ↓appC, ↓updS, ↓updN, ↓hpS, ↓hpN]); exact congrArg (fun z => some (Blk.mk z 8 130)) (by rw [H1, ← hl]; rfl)))))
 ·exact Nat.le_refl _
 intro i hI ih
 refine A4 (st := []) ?_
 refine br ?_ ?_ <;> intro h3_3
 ·(refine C0 (C4 (by first | rfl | assumption | (exact B3 Pc.T Pc0 (by omega))) rfl ?_))
  refine C2 (lt168 (L.getD i Pc0) (hs i (by omega))) rfl rfl rfl ?_
  (refine G4 (by exact Q0) ⟨rfl, C0 ?_⟩)
  (apply est j3; exact Q0; exact J6 (vT Pc.T) [.int .i64 0, .int .i64 0, .int .i64 0, .int .i64 0, .int .i64 0, .str ⟨#[]⟩, .str ⟨#[]⟩, .str ⟨#[]⟩] (by omega); exact j4; exact kb; rfl)
  refine B9 ?_
  exact D1 (ih (i + 1) (by omega) (by omega)) (by (repeat first | exact LE.nil _ | refine LE.unk _ _ ?_ | refine LE.eq _ _ _ rfl ?_)) (by (repeat first | exact A5 | (refine A6 ?_ ?_; ((simp (disch := omega) only [↓app0, ↓appC, ↓updS, ↓updN, ↓hpS, ↓hpN]); exact congrArg (fun z => some (Blk.mk z 8 130)) (J7 (vT Pc.T) [.int .i64 0, .int .i64 0, .int .i64 0, .int .i64 0, .int .i64 0, .str ⟨#[]⟩, .str ⟨#[]⟩, .str ⟨#[]⟩] Pc0 (by omega)))))) (Nat.le_refl _)
 ·obtain rfl : i = L.length := by omega
  refine C6 [0] rfl ?_
  exact SnapL.cons _ _ _ _ (.one _ _ (H4 (sz := 8) (ty := 130) (by simp) (by (simp (disch := omega) only [↓app0, ↓appC, ↓updS, ↓updN, ↓hpS, ↓hpN]); exact congrArg (fun z => some (Blk.mk z 8 130)) (H2 (vT Pc.T) [.int .i64 0, .int .i64 0, .int .i64 0, .int .i64 0, .int .i64 0, .str ⟨#[]⟩, .str ⟨#[]⟩, .str ⟨#[]⟩] L)) hl)) SnapL.nil
theorem le171 (s : Pc) (hb : TBs 1048576 (Pc.T s)) : Pure En 171 [.agg (Pc.T s), .agg (Pc.T s)] [.one (.bool true)] := by
 have b0 := Pc.tb.1 hb
 refine Pure.of_ev (st := []) Tryz.func171 rfl kb ?_
 refine A2 ?_
 refine A2 ?_
 refine br ?_ ?_ <;> intro h1_4
 ·first | exact B5 rfl rfl | contradiction | (exfalso; simp_all; done)
 ·(apply C5 (vs := [.int _ _, .int _ _, .int _ _, .int _ _, .str _, .str _, .str _]) j2; exact Q0; rfl; rfl; exact kb; rfl)
  (apply C5 (vs := [.int _ _, .int _ _, .int _ _, .int _ _, .str _, .str _, .str _]) j2; exact Q0; rfl; rfl; exact kb; rfl)
  refine C2 (le66 s.ms b0) rfl rfl rfl ?_
  first | exact B5 rfl rfl | contradiction | (exfalso; simp_all; done)
theorem le102 (L : List Pc) (hb : TB 1048576 (.sl false (L.map Pc.T))) : Pure En 102 [.one (.sl false (L.map Pc.T)), .one (.sl false (L.map Pc.T))] [.one (.bool true)] := by
 have hl : (L.map Pc.T).length = L.length := List.length_map ..
 obtain ⟨hm, hs⟩ := (B6 Pc.T Pc0).1 hb
 refine Pure.of_ev (st := []) Tryz.func102 rfl kb ?_
 refine br ?_ ?_ <;> intro h1_4
 ·first | exact B5 rfl rfl | contradiction | (exfalso; simp_all; done)
 ·refine C7 (fun (i : Nat) => [.sl false false (L.map Pc.T), .sl false false (L.map Pc.T), .unk, .unk, .unk, .int .i64 i]) (fun (i : Nat) => i ≤ L.length) (fun (i : Nat) => L.length - i) 0 ?_ ?_ ?_
  ·exact Nat.zero_le _
  ·(repeat first | exact LE.nil _ | refine LE.unk _ _ ?_ | refine LE.eq _ _ _ rfl ?_)
  intro i hI ih
  refine A4 (st := []) ?_
  refine br ?_ ?_ <;> intro h4_3
  ·(refine C0 (C4 (by first | rfl | assumption | (exact B3 Pc.T Pc0 (by omega))) rfl ?_))
   (refine C0 (C4 (by first | rfl | assumption | (exact B3 Pc.T Pc0 (by omega))) rfl ?_))
   refine C2 (le171 (L.getD i Pc0) (hs i (by omega))) rfl rfl rfl ?_
   refine B9 ?_
   exact P4 (ih (i + 1) (by omega) (by omega)) (by (repeat first | exact LE.nil _ | refine LE.unk _ _ ?_ | refine LE.eq _ _ _ rfl ?_))
  ·first | exact B5 rfl rfl | contradiction | (exfalso; simp_all; done)
theorem lz31 (s : Grp) (k : Int) (hk : 0 ≤ k ∧ k ≤ 1048576) (hb : TBs 9223372036854775807 (Grp.T s)) : ∃ x : Int, ((-1 ≤ x ∧ x ≤ k) ∧ (0 ≤ x → TBs 1048576 (Grp.T s))) ∧ Pure En 31 [.agg (Grp.T s), .one (.int .i64 k)] [.one (.int .i64 x)] := by
 obtain ⟨b0, b1, b2, b3⟩ := Grp.tb.1 hb
 refine Pure.of_evX (st := []) Tryz.func31 rfl kb ?_
 refine A2 ?_
 refine H6 (lz89 s.fa (k) (by omega) b0) rfl j2 ?_
 rintro y0 h1_3
 try dsimp only at h1_3
 refine br ?_ ?_ <;> intro h2_1
 ·first | exact ⟨-1, ⟨by omega, fun h => by omega⟩, B5 rfl rfl⟩ | exact ⟨_, ⟨by omega, fun hx => Grp.tb.2 ⟨h1_3.2 (by omega), h4_3.2 (by omega), h7_3.2 (by omega), h10_3.2 (by omega)⟩⟩, B5 rfl rfl⟩
 ·refine A2 ?_
  refine H6 (lz90 s.rs (y0) (by omega) b1) rfl j2 ?_
  rintro y1 h4_3
  try dsimp only at h4_3
  refine br ?_ ?_ <;> intro h5_1
  ·first | exact ⟨-1, ⟨by omega, fun h => by omega⟩, B5 rfl rfl⟩ | exact ⟨_, ⟨by omega, fun hx => Grp.tb.2 ⟨h1_3.2 (by omega), h4_3.2 (by omega), h7_3.2 (by omega), h10_3.2 (by omega)⟩⟩, B5 rfl rfl⟩
  ·refine A2 ?_
   refine H6 (lz91 s.wi (y1) (by omega) b2) rfl j2 ?_
   rintro y2 h7_3
   try dsimp only at h7_3
   refine br ?_ ?_ <;> intro h8_1
   ·first | exact ⟨-1, ⟨by omega, fun h => by omega⟩, B5 rfl rfl⟩ | exact ⟨_, ⟨by omega, fun hx => Grp.tb.2 ⟨h1_3.2 (by omega), h4_3.2 (by omega), h7_3.2 (by omega), h10_3.2 (by omega)⟩⟩, B5 rfl rfl⟩
   ·refine A2 ?_
    refine H6 (lz13 s.se (y2) (by omega) b3) rfl j2 ?_
    rintro y3 h10_3
    try dsimp only at h10_3
    refine br ?_ ?_ <;> intro h11_1
    ·first | exact ⟨-1, ⟨by omega, fun h => by omega⟩, B5 rfl rfl⟩ | exact ⟨_, ⟨by omega, fun hx => Grp.tb.2 ⟨h1_3.2 (by omega), h4_3.2 (by omega), h7_3.2 (by omega), h10_3.2 (by omega)⟩⟩, B5 rfl rfl⟩
    ·first | exact ⟨-1, ⟨by omega, fun h => by omega⟩, B5 rfl rfl⟩ | exact ⟨_, ⟨by omega, fun hx => Grp.tb.2 ⟨h1_3.2 (by omega), h4_3.2 (by omega), h7_3.2 (by omega), h10_3.2 (by omega)⟩⟩, B5 rfl rfl⟩
theorem lt33 (s : Grp) (hb : TBs 1048576 (Grp.T s)) : Pure En 33 [.agg (Grp.T s)] [.agg (Grp.T s)] := by
 obtain ⟨b0, b1, b2, b3⟩ := Grp.tb.1 hb
 refine Pure.of_ev (st := []) Tryz.func33 rfl kb ?_
 refine A2 ?_
 (apply est (u := .int _ _) j3; exact Q0; rfl; exact j4; exact kb; rfl)
 refine A2 ?_
 refine C2 (lt94 s.fa b0) rfl rfl rfl ?_
 (apply est (u := .sl _ _ _) j3; exact Q0; rfl; exact j4; exact kb; rfl)
 refine A2 ?_
 refine C2 (lt95 s.rs b1) rfl rfl rfl ?_
 (apply est (u := .sl _ _ _) j3; exact Q0; rfl; exact j4; exact kb; rfl)
 refine A2 ?_
 refine C2 (lt96 s.wi b2) rfl rfl rfl ?_
 (apply est (u := .sl _ _ _) j3; exact Q0; rfl; exact j4; exact kb; rfl)
 refine A2 ?_
 refine C2 (lt15 s.se b3) rfl rfl rfl ?_
 (apply est (u := .sl _ _ _) j3; exact Q0; rfl; exact j4; exact kb; rfl)
 (apply C5 (vs := [.int _ _, _, _, _, _]) j2; exact Q0; rfl; rfl; exact kb; rfl)
 (apply est (u := .agg [.int _ _, _, _, _, _]) j3; exact Q0; rfl; exact j4; exact kb; rfl)
 refine C6 [] (A0 (A3 (xs := (Grp.T s).map (T.toV true)) rfl (by exact Q0) j2 kb rfl) A1) ?_
 exact SnapL.cons _ _ _ _ (SnapC.agg (F2 _)) SnapL.nil
theorem le35 (s : Grp) (hb : TBs 1048576 (Grp.T s)) : Pure En 35 [.agg (Grp.T s), .agg (Grp.T s)] [.one (.bool true)] := by
 obtain ⟨b0, b1, b2, b3⟩ := Grp.tb.1 hb
 refine Pure.of_ev (st := []) Tryz.func35 rfl kb ?_
 refine A2 ?_
 refine A2 ?_
 refine br ?_ ?_ <;> intro h1_4
 ·first | exact B5 rfl rfl | contradiction | (exfalso; simp_all; done)
 ·refine A2 ?_
  refine A2 ?_
  refine C2 (le100 s.fa b0) rfl rfl rfl ?_
  refine A2 ?_
  refine A2 ?_
  refine C2 (le101 s.rs b1) rfl rfl rfl ?_
  refine A2 ?_
  refine A2 ?_
  refine C2 (le102 s.wi b2) rfl rfl rfl ?_
  refine A2 ?_
  refine A2 ?_
  refine C2 (le18 s.se b3) rfl rfl rfl ?_
  first | exact B5 rfl rfl | contradiction | (exfalso; simp_all; done)
open Go.V
set_option linter.unusedVariables false
set_option linter.unusedSimpArgs false
set_option maxRecDepth 20000
set_option maxHeartbeats 4000000
def slOK (n vw sq : Int) (s : Slt) : Prop := (s.bd ≠ ⟨#[]⟩ → s.bd.size ≤ 20000 ∧ bodyOK rdM n s.bd) ∧ (∀ i, i < s.pr.length → arS n 2 vw sq s.pr i) ∧ (∀ i, i < s.cm.length → arS n 3 vw sq s.cm i)
def Ct.E (c : Ct) : Prop := c.bd = ⟨#[]⟩ ∧ c.ps.length = 0
def ceOK (n vw sq : Int) (c : Ct) : Prop := ¬ c.E → ctOK mk bare rdM dgB n c ∧ c.sq = sq ∧ c.vw ≤ vw
def lgOK (n : Int) (b : ByteArray) : Prop := b.size ≤ 20000 ∧ bodyOK rdM n b
def chOK (n vw : Int) (L : List Msg) (i : Nat) : Prop := okV n (L.getD i Msg0) ∧ vw ≤ (L.getD i Msg0).vw ∧ (L.getD i Msg0).vw = (L.getD 0 Msg0).vw ∧ (0 < i → (L.getD (i - 1) Msg0).fr < (L.getD i Msg0).fr)
def Rep.hd (r : Rep) : Prop := nodes r.nd ∧ (0 ≤ r.id ∧ r.id ≤ r.nd - 1) ∧ (0 ≤ r.vw ∧ r.vw ≤ 20) ∧ r.sl.length = 8 ∧ r.cs.length = 8 ∧ r.lg.length ≤ 8 ∧ (r.ch.length : Int) ≤ r.nd
def Rep.OK (r : Rep) : Prop := r.hd ∧ (∀ i, i < r.sl.length → slOK r.nd r.vw ((i : Int) + 1) (r.sl.getD i Slt0)) ∧ (∀ i, i < r.cs.length → ceOK r.nd r.vw ((i : Int) + 1) (r.cs.getD i Ct0)) ∧ (∀ i, i < r.lg.length → lgOK r.nd (r.lg.getD i ⟨#[]⟩)) ∧ (∀ i, i < r.ch.length → chOK r.nd r.vw r.ch i)
noncomputable instance dcSl (n vw sq : Int) (s : Slt) : Decidable (slOK n vw sq s) := Classical.propDecidable _
noncomputable instance dcCE (c : Ct) : Decidable c.E := Classical.propDecidable _
noncomputable instance dcRep (r : Rep) : Decidable r.OK := Classical.propDecidable _
theorem getMapC {b : Bool} {L : List Ct} {k : Nat} (h : k < L.length) : (L.map (Ct.T b))[k]? = some ((L.getD k Ct0).T b) := B3 (Ct.T b) Ct0 h
theorem s82 (c : Ct) (b : Bool) : Pure En 82 [.agg (c.T b)] [.one (.bool (decide c.E))] := by
 have hl : (c.ps.map Msg.T).length = c.ps.length := List.length_map ..
 refine Pure.of_ev (st := []) Tryz.func82 rfl kb ?_
 refine A2 ?_ (by exact Q0) (by rfl)
 refine br ?_ ?_ <;> intro h1_2
 ·refine A2 ?_ (by exact Q0) (by rfl)
  refine br ?_ ?_ <;> intro h1_7
  ·first | (refine B7 rfl ?_; exact ⟨h1_2, by omega⟩) | (refine A9 rfl ?_; rintro ⟨q1, q2⟩; first | exact h1_2 q1 | omega)
  ·first | (refine B7 rfl ?_; exact ⟨h1_2, by omega⟩) | (refine A9 rfl ?_; rintro ⟨q1, q2⟩; first | exact h1_2 q1 | omega)
 ·first | (refine B7 rfl ?_; exact ⟨h1_2, by omega⟩) | (refine A9 rfl ?_; rintro ⟨q1, q2⟩; first | exact h1_2 q1 | omega)
theorem o81 (R : Rep) (hn : nodes R.nd) (s : Slt) (sq : Int) (hp : s.pr.length ≤ 1048576) (hc : s.cm.length ≤ 1048576) {id : Nat} {h : Heap} {n : Nat} (hid : id < n) (hh : h id = some ⟨[[.int .i64 R.id, .int .i64 R.nd, .int .i64 R.vw, .bool R.ac, .sl false false (R.sl.map Slt.T), .sl false false (R.cs.map (Ct.T false)), .sl false false (R.lg.map tT), .sl false false (R.ch.map Msg.T)]], 8, 54⟩) :
  V.Open En 81 [.ptr id 0 0, .agg [.str s.bd, .sl false false (s.pr.map Msg.T), .sl false false (s.cm.map Msg.T), .bool s.se, .bool s.dn], .int .i64 sq] h n (.bool (decide (slOK R.nd R.vw sq s))) [] (n + 1) := by
 refine V.Open.of_ev (st := []) Tryz.func81 rfl kb ?_
 refine A2 ?_ (by exact Q0) (by exact Q2)
 refine br ?_ ?_ <;> intro h1_2
 ·refine A2 ?_ (by exact Q0) (by exact Q2)
  refine br ?_ ?_ <;> intro h1_7
  ·first
   | (rw [decide_eq_true (show slOK R.nd R.vw sq s from ⟨fun q => by first | exact absurd h1_2 q | exact absurd q h1_2 | exact ⟨by omega, h1_15⟩, h3_11, h3_24⟩)]; exact fiO rfl rfl (leWr (fun j hj => absurd hj List.not_mem_nil) (fun j hj hn => by simp (disch := omega) only [↓app0, ↓appC, ↓updS, ↓updN])) (Nat.le_refl _))
   | (rw [decide_eq_false (show ¬ slOK R.nd R.vw sq s from by rintro ⟨q1, q2, q3⟩; first | exact h3_11 q2 | exact h3_24 q3 | (have := q1 h1_2; first | omega | exact h1_15 this.2))]; exact fiO rfl rfl (leWr (fun j hj => absurd hj List.not_mem_nil) (fun j hj hn => by simp (disch := omega) only [↓app0, ↓appC, ↓updS, ↓updN])) (Nat.le_refl _))
  ·refine A2 ?_ (by exact Q0) (by exact Q2)
   refine A2 ?_ (by exact Q0) (by exact Q2)
   refine B2 (s86 R.nd hn s.bd) rfl j2 ?_ ?_ <;> intro h1_15
   ·refine A2 ?_ (by exact Q0) (by exact Q2)
    refine A2 ?_ (by exact Q0) (by exact Q2)
    refine A2 ?_ (by exact Q0) (by exact Q2)
    refine B2 (s158 R.nd 2 R.vw sq s.pr false hp) rfl j2 ?_ ?_ <;> intro h3_11
    ·refine A2 ?_ (by exact Q0) (by exact Q2)
     refine A2 ?_ (by exact Q0) (by exact Q2)
     refine A2 ?_ (by exact Q0) (by exact Q2)
     refine B2 (s158 R.nd 3 R.vw sq s.cm false hc) rfl j2 ?_ ?_ <;> intro h3_24
     ·first
      | (rw [decide_eq_true (show slOK R.nd R.vw sq s from ⟨fun q => by first | exact absurd h1_2 q | exact absurd q h1_2 | exact ⟨by omega, h1_15⟩, h3_11, h3_24⟩)]; exact fiO rfl rfl (leWr (fun j hj => absurd hj List.not_mem_nil) (fun j hj hn => by simp (disch := omega) only [↓app0, ↓appC, ↓updS, ↓updN])) (Nat.le_refl _))
      | (rw [decide_eq_false (show ¬ slOK R.nd R.vw sq s from by rintro ⟨q1, q2, q3⟩; first | exact h3_11 q2 | exact h3_24 q3 | (have := q1 h1_2; first | omega | exact h1_15 this.2))]; exact fiO rfl rfl (leWr (fun j hj => absurd hj List.not_mem_nil) (fun j hj hn => by simp (disch := omega) only [↓app0, ↓appC, ↓updS, ↓updN])) (Nat.le_refl _))
     ·first
      | (rw [decide_eq_true (show slOK R.nd R.vw sq s from ⟨fun q => by first | exact absurd h1_2 q | exact absurd q h1_2 | exact ⟨by omega, h1_15⟩, h3_11, h3_24⟩)]; exact fiO rfl rfl (leWr (fun j hj => absurd hj List.not_mem_nil) (fun j hj hn => by simp (disch := omega) only [↓app0, ↓appC, ↓updS, ↓updN])) (Nat.le_refl _))
      | (rw [decide_eq_false (show ¬ slOK R.nd R.vw sq s from by rintro ⟨q1, q2, q3⟩; first | exact h3_11 q2 | exact h3_24 q3 | (have := q1 h1_2; first | omega | exact h1_15 this.2))]; exact fiO rfl rfl (leWr (fun j hj => absurd hj List.not_mem_nil) (fun j hj hn => by simp (disch := omega) only [↓app0, ↓appC, ↓updS, ↓updN])) (Nat.le_refl _))
    ·first
     | (rw [decide_eq_true (show slOK R.nd R.vw sq s from ⟨fun q => by first | exact absurd h1_2 q | exact absurd q h1_2 | exact ⟨by omega, h1_15⟩, h3_11, h3_24⟩)]; exact fiO rfl rfl (leWr (fun j hj => absurd hj List.not_mem_nil) (fun j hj hn => by simp (disch := omega) only [↓app0, ↓appC, ↓updS, ↓updN])) (Nat.le_refl _))
     | (rw [decide_eq_false (show ¬ slOK R.nd R.vw sq s from by rintro ⟨q1, q2, q3⟩; first | exact h3_11 q2 | exact h3_24 q3 | (have := q1 h1_2; first | omega | exact h1_15 this.2))]; exact fiO rfl rfl (leWr (fun j hj => absurd hj List.not_mem_nil) (fun j hj hn => by simp (disch := omega) only [↓app0, ↓appC, ↓updS, ↓updN])) (Nat.le_refl _))
   ·first
    | (rw [decide_eq_true (show slOK R.nd R.vw sq s from ⟨fun q => by first | exact absurd h1_2 q | exact absurd q h1_2 | exact ⟨by omega, h1_15⟩, h3_11, h3_24⟩)]; exact fiO rfl rfl (leWr (fun j hj => absurd hj List.not_mem_nil) (fun j hj hn => by simp (disch := omega) only [↓app0, ↓appC, ↓updS, ↓updN])) (Nat.le_refl _))
    | (rw [decide_eq_false (show ¬ slOK R.nd R.vw sq s from by rintro ⟨q1, q2, q3⟩; first | exact h3_11 q2 | exact h3_24 q3 | (have := q1 h1_2; first | omega | exact h1_15 this.2))]; exact fiO rfl rfl (leWr (fun j hj => absurd hj List.not_mem_nil) (fun j hj hn => by simp (disch := omega) only [↓app0, ↓appC, ↓updS, ↓updN])) (Nat.le_refl _))
 ·refine A2 ?_ (by exact Q0) (by exact Q2)
  refine A2 ?_ (by exact Q0) (by exact Q2)
  refine A2 ?_ (by exact Q0) (by exact Q2)
  refine B2 (s158 R.nd 2 R.vw sq s.pr false hp) rfl j2 ?_ ?_ <;> intro h3_11
  ·refine A2 ?_ (by exact Q0) (by exact Q2)
   refine A2 ?_ (by exact Q0) (by exact Q2)
   refine A2 ?_ (by exact Q0) (by exact Q2)
   refine B2 (s158 R.nd 3 R.vw sq s.cm false hc) rfl j2 ?_ ?_ <;> intro h3_24
   ·first
    | (rw [decide_eq_true (show slOK R.nd R.vw sq s from ⟨fun q => by first | exact absurd h1_2 q | exact absurd q h1_2 | exact ⟨by omega, h1_15⟩, h3_11, h3_24⟩)]; exact fiO rfl rfl (leWr (fun j hj => absurd hj List.not_mem_nil) (fun j hj hn => by simp (disch := omega) only [↓app0, ↓appC, ↓updS, ↓updN])) (Nat.le_refl _))
    | (rw [decide_eq_false (show ¬ slOK R.nd R.vw sq s from by rintro ⟨q1, q2, q3⟩; first | exact h3_11 q2 | exact h3_24 q3 | (have := q1 h1_2; first | omega | exact h1_15 this.2))]; exact fiO rfl rfl (leWr (fun j hj => absurd hj List.not_mem_nil) (fun j hj hn => by simp (disch := omega) only [↓app0, ↓appC, ↓updS, ↓updN])) (Nat.le_refl _))
   ·first
    | (rw [decide_eq_true (show slOK R.nd R.vw sq s from ⟨fun q => by first | exact absurd h1_2 q | exact absurd q h1_2 | exact ⟨by omega, h1_15⟩, h3_11, h3_24⟩)]; exact fiO rfl rfl (leWr (fun j hj => absurd hj List.not_mem_nil) (fun j hj hn => by simp (disch := omega) only [↓app0, ↓appC, ↓updS, ↓updN])) (Nat.le_refl _))
    | (rw [decide_eq_false (show ¬ slOK R.nd R.vw sq s from by rintro ⟨q1, q2, q3⟩; first | exact h3_11 q2 | exact h3_24 q3 | (have := q1 h1_2; first | omega | exact h1_15 this.2))]; exact fiO rfl rfl (leWr (fun j hj => absurd hj List.not_mem_nil) (fun j hj hn => by simp (disch := omega) only [↓app0, ↓appC, ↓updS, ↓updN])) (Nat.le_refl _))
  ·first
   | (rw [decide_eq_true (show slOK R.nd R.vw sq s from ⟨fun q => by first | exact absurd h1_2 q | exact absurd q h1_2 | exact ⟨by omega, h1_15⟩, h3_11, h3_24⟩)]; exact fiO rfl rfl (leWr (fun j hj => absurd hj List.not_mem_nil) (fun j hj hn => by simp (disch := omega) only [↓app0, ↓appC, ↓updS, ↓updN])) (Nat.le_refl _))
   | (rw [decide_eq_false (show ¬ slOK R.nd R.vw sq s from by rintro ⟨q1, q2, q3⟩; first | exact h3_11 q2 | exact h3_24 q3 | (have := q1 h1_2; first | omega | exact h1_15 this.2))]; exact fiO rfl rfl (leWr (fun j hj => absurd hj List.not_mem_nil) (fun j hj hn => by simp (disch := omega) only [↓app0, ↓appC, ↓updS, ↓updN])) (Nat.le_refl _))
theorem hce {n : Int} {c : Ct} (h : nodes n ∧ ctOK mk bare rdM dgB n c) : 0 < c.ps.length := by
 have h1 := h.2.1; have := N5 h.1; omega
theorem Rep.sm {R : Rep} (h : TBs 1048576 R.T) : R.sl.length ≤ 1048576 ∧ (∀ i, i < R.sl.length → (R.sl.getD i Slt0).pr.length ≤ 1048576) ∧ (∀ i, i < R.sl.length → (R.sl.getD i Slt0).cm.length ≤ 1048576) ∧ R.cs.length ≤ 1048576 ∧ (∀ i, i < R.cs.length → (R.cs.getD i Ct0).ps.length ≤ 1048576) ∧ R.lg.length ≤ 1048576 ∧ R.ch.length ≤ 1048576 := by
 obtain ⟨h1, h2, h3, h4⟩ := Rep.tb.1 h
 obtain ⟨a1, a2⟩ := (B6 Slt.T Slt0).1 h1
 obtain ⟨b1, b2⟩ := (B6 (Ct.T false) Ct0).1 h2
 obtain ⟨c1, _⟩ := (B6 tT ⟨#[]⟩).1 h3
 obtain ⟨d1, _⟩ := (B6 Msg.T Msg0).1 h4
 exact ⟨a1, fun i hi => ((B6 Msg.T Msg0).1 (Slt.tb.1 (a2 i hi)).2.1).1, fun i hi => ((B6 Msg.T Msg0).1 (Slt.tb.1 (a2 i hi)).2.2).1, b1, fun i hi => ((B6 Msg.T Msg0).1 (Ct.tb.1 (b2 i hi)).2).1, c1, d1⟩
theorem s29 (R : Rep) (hb : TBs 1048576 R.T) : Pure En 29 [.agg R.T] [.one (.bool (decide R.OK))] := by
 obtain ⟨hS0, hS1, hS2, hC0, hC1, hG0, hM0⟩ := Rep.sm hb
 have hl1 : (R.sl.map Slt.T).length = R.sl.length := List.length_map ..
 have hl2 : (R.cs.map (Ct.T false)).length = R.cs.length := List.length_map ..
 have hl3 : (R.lg.map tT).length = R.lg.length := List.length_map ..
 have hl4 : (R.ch.map Msg.T).length = R.ch.length := List.length_map ..
 refine Pure.of_ev (st := []) Tryz.func29 rfl kb ?_
 refine A2 ?_ (by exact Q0) (by exact Q2)
 refine B2 (p22 R.nd) rfl j2 ?_ ?_ <;> intro h1_2
 ·refine A2 ?_ (by exact Q0) (by exact Q2)
  refine A2 ?_ (by exact Q0) (by exact Q2)
  refine D4 ⟨by exact F5, by exact F5⟩ ?_
  refine B2 (V1 _ _ _) rfl j2 ?_ ?_ <;> intro h1_10
  ·refine A2 ?_ (by exact Q0) (by exact Q2)
   refine B2 (V1 _ _ _) rfl j2 ?_ ?_ <;> intro h1_16
   ·refine A2 ?_ (by exact Q0) (by exact Q2)
    refine br ?_ ?_ <;> intro h1_23
    ·refine A9 rfl ?_; rintro ⟨⟨q1, q2, q3, q4, q5, q6, q7⟩, _⟩; first | exact h1_2 q1 | exact h1_10 q2 | exact h1_16 q3 | omega
    ·refine A2 ?_ (by exact Q0) (by exact Q2)
     refine br ?_ ?_ <;> intro h1_29
     ·refine A9 rfl ?_; rintro ⟨⟨q1, q2, q3, q4, q5, q6, q7⟩, _⟩; first | exact h1_2 q1 | exact h1_10 q2 | exact h1_16 q3 | omega
     ·refine A2 ?_ (by exact Q0) (by exact Q2)
      refine br ?_ ?_ <;> intro h1_35
      ·refine A9 rfl ?_; rintro ⟨⟨q1, q2, q3, q4, q5, q6, q7⟩, _⟩; first | exact h1_2 q1 | exact h1_10 q2 | exact h1_16 q3 | omega
      ·refine A2 ?_ (by exact Q0) (by exact Q2)
       refine A2 ?_ (by exact Q0) (by exact Q2)
       refine br ?_ ?_ <;> intro h1_43
       ·refine A9 rfl ?_; rintro ⟨⟨q1, q2, q3, q4, q5, q6, q7⟩, _⟩; first | exact h1_2 q1 | exact h1_10 q2 | exact h1_16 q3 | omega
       ·refine A2 ?_ (by exact Q0) (by exact Q2)
        refine B1 (fun (a : Nat × Nat) => [.unk, .ptr 0 0 0, .unk, .unk, .unk, .unk, .unk, .unk, .unk, .unk, .unk, .unk, .unk, .unk, .unk, .unk, .unk, .unk, .unk, .unk, .unk, .unk, .unk, .unk, .unk, .unk, .unk, .unk, .unk, .unk, .unk, .unk, .unk, .unk, .unk, .unk, .unk, .unk, .unk, .unk, .unk, .unk, .unk, .unk, .unk, .unk, .unk, .unk, .unk, .unk, .unk, .unk, .unk, .unk, .unk, .unk, .unk, .unk, .unk, .sl false false (R.sl.map Slt.T), .int .i64 ((R.sl.map Slt.T).length : Int), .int .i64 a.1]) (fun (a : Nat × Nat) => hp [(0, ⟨[[.int .i64 R.id, .int .i64 R.nd, .int .i64 R.vw, .bool R.ac, .sl false false (R.sl.map Slt.T), .sl false false (R.cs.map (Ct.T false)), .sl false false (R.lg.map tT), .sl false false (R.ch.map Msg.T)]], 8, 54⟩)]) (fun (a : Nat × Nat) => a.2) (fun (a : Nat × Nat) => a.1 ≤ R.sl.length ∧ 1 ≤ a.2 ∧ ∀ j, j < a.1 → slOK R.nd R.vw ((j : Int) + 1) (R.sl.getD j Slt0)) (fun (a : Nat × Nat) => R.sl.length - a.1) (0, 1) ?_ ?_ ?_ ?_ ?_
        ·exact ⟨Nat.zero_le _, Nat.le_refl _, D9⟩
        ·(repeat first | exact LE.nil _ | refine LE.unk _ _ ?_ | refine LE.eq _ _ _ rfl ?_)
        ·(repeat first | exact A5 | (refine A6 ?_ ?_; exact F8))
        ·exact Nat.le_refl _
        intro ⟨i, m⟩ hI ih
        obtain ⟨u0, u1, u2⟩ := hI
        dsimp only at u0 u1 u2 ⊢
        refine A4 (st := []) ?_
        refine br ?_ ?_ <;> intro h4_0
        ·(refine C0 (C4 (by first | rfl | assumption | exact Q16) rfl ?_))
         (apply est (u := .agg [.str _, _, _, .bool _, .bool _]) j3; exact Q0; exact Q2; exact j4; exact kb; rfl)
         (apply C5 (vs := [.str _, _, _, .bool _, .bool _]) j2; exact Q0; exact Q2; rfl; exact kb; rfl)
         refine D4 ⟨by exact F5, by exact F5⟩ ?_
         refine P0 (o81 R h1_2 (R.sl.getD i Slt0) ((i : Int) + 1) (hS1 i (by omega)) (hS2 i (by omega)) ?_ ?_) rfl j2 ?_ ?_
         ·exact F1
         ·exact F1
         all_goals intro h6_3
         ·refine D4 ⟨by exact F5, by exact F5⟩ ?_
          exact D1 (ih (i + 1, m + 1 + 1) ⟨by dsimp only; omega, by dsimp only; omega, C9 u2 (of_decide_eq_true h6_3)⟩ (by dsimp only; omega)) (by (repeat first | exact LE.nil _ | refine LE.unk _ _ ?_ | refine LE.eq _ _ _ rfl ?_)) (by (repeat first | exact A5 | (refine A6 ?_ ?_; exact F8))) (Nat.le_refl _)
         ·refine A9 rfl ?_; rintro ⟨_, q2, _⟩; exact of_decide_eq_false h6_3 (q2 i (by omega))
        ·refine A2 ?_ (by exact Q0) (by exact Q2)
         refine B1 (fun (a : Nat × Nat) => [.unk, .ptr 0 0 0, .unk, .unk, .unk, .unk, .unk, .unk, .unk, .unk, .unk, .unk, .unk, .unk, .unk, .unk, .unk, .unk, .unk, .unk, .unk, .unk, .unk, .unk, .unk, .unk, .unk, .unk, .unk, .unk, .unk, .unk, .unk, .unk, .unk, .unk, .unk, .unk, .unk, .unk, .unk, .unk, .unk, .unk, .unk, .unk, .unk, .unk, .unk, .unk, .unk, .unk, .unk, .unk, .unk, .unk, .unk, .unk, .unk, .unk, .unk, .unk, .unk, .unk, .unk, .unk, .unk, .unk, .unk, .unk, .unk, .unk, .unk, .sl false false (R.cs.map (Ct.T false)), .int .i64 ((R.cs.map (Ct.T false)).length : Int), .int .i64 a.1]) (fun (a : Nat × Nat) => hp [(0, ⟨[[.int .i64 R.id, .int .i64 R.nd, .int .i64 R.vw, .bool R.ac, .sl false false (R.sl.map Slt.T), .sl false false (R.cs.map (Ct.T false)), .sl false false (R.lg.map tT), .sl false false (R.ch.map Msg.T)]], 8, 54⟩)]) (fun (a : Nat × Nat) => a.2) (fun (a : Nat × Nat) => a.1 ≤ R.cs.length ∧ 1 ≤ a.2 ∧ ∀ j, j < a.1 → ceOK R.nd R.vw ((j : Int) + 1) (R.cs.getD j Ct0)) (fun (a : Nat × Nat) => R.cs.length - a.1) (0, m) ?_ ?_ ?_ ?_ ?_
         ·exact ⟨Nat.zero_le _, u1, D9⟩
         ·(repeat first | exact LE.nil _ | refine LE.unk _ _ ?_ | refine LE.eq _ _ _ rfl ?_)
         ·(repeat first | exact A5 | (refine A6 ?_ ?_; exact F8))
         ·exact Nat.le_refl _
         intro ⟨i2, m2⟩ hI ih
         obtain ⟨v0, v1, v2⟩ := hI
         dsimp only at v0 v1 v2 ⊢
         refine A4 (st := []) ?_
         refine br ?_ ?_ <;> intro h10_0
         ·(refine C0 (C4 (by first | rfl | assumption | exact Q16) rfl ?_))
          (apply est (u := .agg [.str _, _]) j3; exact Q0; exact Q2; exact j4; exact kb; rfl)
          (apply C5 (vs := [.str _, _]) j2; exact Q0; exact Q2; rfl; exact kb; rfl)
          refine B2 (s82 (R.cs.getD i2 Ct0) false) rfl j2 ?_ ?_ <;> intro h12_1
          ·refine D4 ⟨by exact F5, by exact F5⟩ ?_
           exact D1 (ih (i2 + 1, m2 + 1) ⟨by dsimp only; omega, by dsimp only; omega, C9 v2 (fun q => by first | exact absurd h12_1 q | exact ⟨h12_7.2, by omega, by omega⟩)⟩ (by dsimp only; omega)) (by (repeat first | exact LE.nil _ | refine LE.unk _ _ ?_ | refine LE.eq _ _ _ rfl ?_)) (by (repeat first | exact A5 | (refine A6 ?_ ?_; exact F8))) (Nat.le_refl _)
          ·refine A2 ?_ (by exact Q0) (by exact Q2)
           (apply C5 (vs := [.str _, _]) j2; exact Q0; exact Q2; rfl; exact kb; rfl)
           refine B2 (s83 R.nd (R.cs.getD i2 Ct0) false) rfl j2 ?_ ?_ <;> intro h12_7
           ·(apply C5 (vs := [.str _, _]) j2; exact Q0; exact Q2; rfl; exact kb; rfl)
            refine C2 (s84 (R.cs.getD i2 Ct0) false (hce h12_7)) rfl rfl rfl ?_
            refine D4 ⟨by exact F5, by exact F5⟩ ?_
            refine br ?_ ?_ <;> intro h12_14
            ·refine A9 rfl ?_; rintro ⟨_, _, q3, _⟩; obtain ⟨e1, e2, e3⟩ := q3 i2 (by omega) h12_1; first | exact h12_7 ⟨h1_2, e1⟩ | omega
            ·(apply C5 (vs := [.str _, _]) j2; exact Q0; exact Q2; rfl; exact kb; rfl)
             refine C2 (s85 (R.cs.getD i2 Ct0) false (hce h12_7)) rfl rfl rfl ?_
             refine A2 ?_ (by exact Q0) (by exact Q2)
             refine br ?_ ?_ <;> intro h12_21
             ·refine A9 rfl ?_; rintro ⟨_, _, q3, _⟩; obtain ⟨e1, e2, e3⟩ := q3 i2 (by omega) h12_1; first | exact h12_7 ⟨h1_2, e1⟩ | omega
             ·refine D4 ⟨by exact F5, by exact F5⟩ ?_
              exact D1 (ih (i2 + 1, m2 + 1) ⟨by dsimp only; omega, by dsimp only; omega, C9 v2 (fun q => by first | exact absurd h12_1 q | exact ⟨h12_7.2, by omega, by omega⟩)⟩ (by dsimp only; omega)) (by (repeat first | exact LE.nil _ | refine LE.unk _ _ ?_ | refine LE.eq _ _ _ rfl ?_)) (by (repeat first | exact A5 | (refine A6 ?_ ?_; exact F8))) (Nat.le_refl _)
           ·refine A9 rfl ?_; rintro ⟨_, _, q3, _⟩; obtain ⟨e1, e2, e3⟩ := q3 i2 (by omega) h12_1; first | exact h12_7 ⟨h1_2, e1⟩ | omega
         ·refine A2 ?_ (by exact Q0) (by exact Q2)
          refine B1 (fun (a : Nat) => [.unk, .ptr 0 0 0, .unk, .unk, .unk, .unk, .unk, .unk, .unk, .unk, .unk, .unk, .unk, .unk, .unk, .unk, .unk, .unk, .unk, .unk, .unk, .unk, .unk, .unk, .unk, .unk, .unk, .unk, .unk, .unk, .unk, .unk, .unk, .unk, .unk, .unk, .unk, .unk, .unk, .unk, .unk, .unk, .unk, .unk, .unk, .unk, .unk, .unk, .unk, .unk, .unk, .unk, .unk, .unk, .unk, .unk, .unk, .unk, .unk, .unk, .unk, .unk, .unk, .unk, .unk, .unk, .unk, .unk, .unk, .unk, .unk, .unk, .unk, .unk, .unk, .unk, .unk, .unk, .unk, .unk, .unk, .unk, .unk, .unk, .unk, .unk, .unk, .unk, .unk, .unk, .unk, .unk, .unk, .unk, .unk, .unk, .unk, .unk, .unk, .unk, .unk, .unk, .unk, .unk, .unk, .unk, .sl false false (R.lg.map tT), .int .i64 ((R.lg.map tT).length : Int), .int .i64 a]) (fun (a : Nat) => hp [(0, ⟨[[.int .i64 R.id, .int .i64 R.nd, .int .i64 R.vw, .bool R.ac, .sl false false (R.sl.map Slt.T), .sl false false (R.cs.map (Ct.T false)), .sl false false (R.lg.map tT), .sl false false (R.ch.map Msg.T)]], 8, 54⟩)]) (fun (a : Nat) => m2) (fun (a : Nat) => a ≤ R.lg.length ∧ ∀ j, j < a → lgOK R.nd (R.lg.getD j ⟨#[]⟩)) (fun (a : Nat) => R.lg.length - a) 0 ?_ ?_ ?_ ?_ ?_
          ·exact ⟨Nat.zero_le _, D9⟩
          ·(repeat first | exact LE.nil _ | refine LE.unk _ _ ?_ | refine LE.eq _ _ _ rfl ?_)
          ·(repeat first | exact A5 | (refine A6 ?_ ?_; exact F8))
          ·exact Nat.le_refl _
          intro i3 hI ih
          obtain ⟨w0, w2⟩ := hI
          have hzz : (R.lg.getD ((i3 : Int)).toNat (⟨#[]⟩ : ByteArray)).size = (R.lg.getD i3 (⟨#[]⟩ : ByteArray)).size := rfl
          refine A4 (st := []) ?_
          refine br ?_ ?_ <;> intro h16_0
          ·(refine C0 (C4 (by first | rfl | assumption | exact Q16) rfl ?_))
           refine br ?_ ?_ <;> intro h18_2
           ·refine A9 rfl ?_; rintro ⟨_, _, _, q4, _⟩; obtain ⟨e1, e2⟩ := q4 i3 (by omega); first | omega | exact h18_7 e2
           ·refine A2 ?_ (by exact Q0) (by exact Q2)
            refine B2 (s86 R.nd h1_2 (R.lg.getD i3 ⟨#[]⟩)) rfl j2 ?_ ?_ <;> intro h18_7
            ·refine D4 ⟨by exact F5, by exact F5⟩ ?_
             exact D1 (ih (i3 + 1) ⟨by omega, C9 w2 ⟨by omega, h18_7⟩⟩ (by omega)) (by (repeat first | exact LE.nil _ | refine LE.unk _ _ ?_ | refine LE.eq _ _ _ rfl ?_)) (by (repeat first | exact A5 | (refine A6 ?_ ?_; exact F8))) (Nat.le_refl _)
            ·refine A9 rfl ?_; rintro ⟨_, _, _, q4, _⟩; obtain ⟨e1, e2⟩ := q4 i3 (by omega); first | omega | exact h18_7 e2
          ·refine A2 ?_ (by exact Q0) (by exact Q2)
           refine B1 (fun (a : Nat × Nat) => [.unk, .ptr 0 0 0, .unk, .unk, .unk, .unk, .unk, .unk, .unk, .unk, .unk, .unk, .unk, .unk, .unk, .unk, .unk, .unk, .unk, .unk, .unk, .unk, .unk, .unk, .unk, .unk, .unk, .unk, .unk, .unk, .unk, .unk, .unk, .unk, .unk, .unk, .unk, .unk, .unk, .unk, .unk, .unk, .unk, .unk, .unk, .unk, .unk, .unk, .unk, .unk, .unk, .unk, .unk, .unk, .unk, .unk, .unk, .unk, .unk, .unk, .unk, .unk, .unk, .unk, .unk, .unk, .unk, .unk, .unk, .unk, .unk, .unk, .unk, .unk, .unk, .unk, .unk, .unk, .unk, .unk, .unk, .unk, .unk, .unk, .unk, .unk, .unk, .unk, .unk, .unk, .unk, .unk, .unk, .unk, .unk, .unk, .unk, .unk, .unk, .unk, .unk, .unk, .unk, .unk, .unk, .unk, .unk, .unk, .unk, .unk, .unk, .unk, .unk, .unk, .unk, .unk, .unk, .unk, .unk, .unk, .unk, .unk, .unk, .unk, .sl false false (R.ch.map Msg.T), .int .i64 ((R.ch.map Msg.T).length : Int), .int .i64 a.1]) (fun (a : Nat × Nat) => hp [(0, ⟨[[.int .i64 R.id, .int .i64 R.nd, .int .i64 R.vw, .bool R.ac, .sl false false (R.sl.map Slt.T), .sl false false (R.cs.map (Ct.T false)), .sl false false (R.lg.map tT), .sl false false (R.ch.map Msg.T)]], 8, 54⟩)]) (fun (a : Nat × Nat) => a.2) (fun (a : Nat × Nat) => a.1 ≤ R.ch.length ∧ 1 ≤ a.2 ∧ ∀ j, j < a.1 → chOK R.nd R.vw R.ch j) (fun (a : Nat × Nat) => R.ch.length - a.1) (0, m2) ?_ ?_ ?_ ?_ ?_
           ·exact ⟨Nat.zero_le _, v1, D9⟩
           ·(repeat first | exact LE.nil _ | refine LE.unk _ _ ?_ | refine LE.eq _ _ _ rfl ?_)
           ·(repeat first | exact A5 | (refine A6 ?_ ?_; exact F8))
           ·exact Nat.le_refl _
           intro ⟨i4, m4⟩ hI ih
           obtain ⟨x0, x1, x2⟩ := hI
           dsimp only at x0 x1 x2 ⊢
           refine A4 (st := []) ?_
           refine br ?_ ?_ <;> intro h22_0
           ·(refine C0 (C4 (by first | rfl | assumption | exact Q16) rfl ?_))
            (apply est (u := .agg [.int _ _, .int _ _, .int _ _, .int _ _, .str _, .str _, .str _]) j3; exact Q0; exact Q2; exact j4; exact kb; rfl)
            refine A2 ?_ (by exact Q0) (by exact Q2)
            (apply C5 (vs := [.int _ _, .int _ _, .int _ _, .int _ _, .str _, .str _, .str _]) j2; exact Q0; exact Q2; rfl; exact kb; rfl)
            refine C2 (s70 R.nd (R.ch.getD i4 Msg0)) rfl rfl rfl ?_
            refine brB ?_ ?_ <;> intro h24_6
            ·refine A2 ?_ (by exact Q0) (by exact Q2)
             refine A2 ?_ (by exact Q0) (by exact Q2)
             refine br ?_ ?_ <;> intro h25_7
             ·refine A9 rfl ?_; rintro ⟨_, _, _, _, q5⟩; obtain ⟨e1, e2, e3, e4⟩ := q5 i4 (by omega); first | exact of_decide_eq_false h24_6 e1 | omega | (have := e4 (by omega); omega)
             ·refine A2 ?_ (by exact Q0) (by exact Q2)
              refine A2 ?_ (by exact Q0) (by exact Q2)
              (refine C0 (C4 (by first | rfl | assumption | exact Q16) rfl ?_))
              refine br ?_ ?_ <;> intro h25_17
              ·refine A9 rfl ?_; rintro ⟨_, _, _, _, q5⟩; obtain ⟨e1, e2, e3, e4⟩ := q5 i4 (by omega); first | exact of_decide_eq_false h24_6 e1 | omega | (have := e4 (by omega); omega)
              ·refine br ?_ ?_ <;> intro h25_21
               ·refine A2 ?_ (by exact Q0) (by exact Q2)
                refine D4 ⟨by exact F5, by exact F5⟩ ?_
                (refine C0 (C4 (by first | rfl | assumption | exact Q16) rfl ?_))
                refine A2 ?_ (by exact Q0) (by exact Q2)
                refine br ?_ ?_ <;> intro h25_32
                ·refine A9 rfl ?_; rintro ⟨_, _, _, _, q5⟩; obtain ⟨e1, e2, e3, e4⟩ := q5 i4 (by omega); first | exact of_decide_eq_false h24_6 e1 | omega | (have := e4 (by omega); omega)
                ·refine D4 ⟨by exact F5, by exact F5⟩ ?_
                 exact D1 (ih (i4 + 1, m4 + 1) ⟨by dsimp only; omega, by dsimp only; omega, C9 x2 ⟨of_decide_eq_true h24_6, by omega, by omega, fun _ => by omega⟩⟩ (by dsimp only; omega)) (by (repeat first | exact LE.nil _ | refine LE.unk _ _ ?_ | refine LE.eq _ _ _ rfl ?_)) (by (repeat first | exact A5 | (refine A6 ?_ ?_; exact F8))) (Nat.le_refl _)
               ·refine D4 ⟨by exact F5, by exact F5⟩ ?_
                exact D1 (ih (i4 + 1, m4 + 1) ⟨by dsimp only; omega, by dsimp only; omega, C9 x2 ⟨of_decide_eq_true h24_6, by omega, by omega, fun _ => by omega⟩⟩ (by dsimp only; omega)) (by (repeat first | exact LE.nil _ | refine LE.unk _ _ ?_ | refine LE.eq _ _ _ rfl ?_)) (by (repeat first | exact A5 | (refine A6 ?_ ?_; exact F8))) (Nat.le_refl _)
            ·refine A9 rfl ?_; rintro ⟨_, _, _, _, q5⟩; obtain ⟨e1, e2, e3, e4⟩ := q5 i4 (by omega); first | exact of_decide_eq_false h24_6 e1 | omega | (have := e4 (by omega); omega)
           ·refine B7 rfl ?_; exact ⟨⟨h1_2, h1_10, h1_16, by omega, by omega, by omega, by omega⟩, fun j hj => u2 j (by omega), fun j hj => v2 j (by omega), fun j hj => w2 j (by omega), fun j hj => x2 j (by omega)⟩
   ·refine A9 rfl ?_; rintro ⟨⟨q1, q2, q3, q4, q5, q6, q7⟩, _⟩; first | exact h1_2 q1 | exact h1_10 q2 | exact h1_16 q3 | omega
  ·refine A9 rfl ?_; rintro ⟨⟨q1, q2, q3, q4, q5, q6, q7⟩, _⟩; first | exact h1_2 q1 | exact h1_10 q2 | exact h1_16 q3 | omega
 ·refine A9 rfl ?_; rintro ⟨⟨q1, q2, q3, q4, q5, q6, q7⟩, _⟩; first | exact h1_2 q1 | exact h1_10 q2 | exact h1_16 q3 | omega
end Go.Proofs.YteifdelnahccjaaGreatDoor
