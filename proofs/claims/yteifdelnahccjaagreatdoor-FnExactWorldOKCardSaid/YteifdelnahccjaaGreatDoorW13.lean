import Derived.Test.YteifdelnahccjaaGreatDoorRows
import Derived.ProofKit
import Derived.ClosedOfChecked
import Derived.Deep.DeepHandedRow
import Derived.Test.YteifdelnahccjaaGreatDoorCards
import Derived.Test.YteifdelnahccjaaGreatDoorW12
namespace Go.Proofs.YteifdelnahccjaaGreatDoor
open Go.V
set_option linter.unusedVariables false
set_option linter.unusedSimpArgs false
set_option maxRecDepth 20000
set_option maxHeartbeats 4000000
theorem ctP {n : Int} (hn : nodes n) {c : Ct} : ctOK mk bare rdM dgB n c → 0 < c.ps.length := fun h => hce ⟨hn, h⟩
theorem r75 (R : Rep) (hn : nodes R.nd) (L : List Msg) (kd sq : Int) (hL : L.length ≤ 1048576) : Pure En 75 [.agg R.T, .one (.sl false (L.map Msg.T)), .one (.int .i64 kd), .one (.int .i64 sq)] [.one (.bool (decide (∀ i, i < L.length → arS R.nd kd R.vw sq L i)))] := by
 have hl : (L.map Msg.T).length = L.length := List.length_map ..
 refine Pure.of_ev (st := []) Tryz.func75 rfl kb ?_
 refine B3 (fun (a : Nat × Nat) => [.unk, .sl false false (L.map Msg.T), .int .i64 kd, .int .i64 sq, .ptr 0 0 0, .unk, .unk, .unk, .unk, .int .i64 a.1]) (fun (a : Nat × Nat) => hp [(0, ⟨[[.int .i64 R.id, .int .i64 R.nd, .int .i64 R.vw, .bool R.ac, .sl false false (R.sl.map Slt.T), .sl false false (R.cs.map (Ct.T false)), .sl false false (R.lg.map tT), .sl false false (R.ch.map Msg.T)]], 8, 54⟩)]) (fun (a : Nat × Nat) => a.2) (fun (a : Nat × Nat) => a.1 ≤ L.length ∧ 1 ≤ a.2 ∧ ∀ j, j < a.1 → arS R.nd kd R.vw sq L j) (fun (a : Nat × Nat) => L.length - a.1) (0, 1) ?_ ?_ ?_ ?_ ?_
 ·exact ⟨Nat.zero_le _, Nat.le_refl _, E6⟩
 ·(repeat first | exact LE.nil _ | refine LE.unk _ _ ?_ | refine LE.eq _ _ _ rfl ?_)
 ·(repeat first | exact A5 | (refine A4 ?_ ?_; exact H8))
 ·exact Nat.le_refl _
 intro ⟨i, m⟩ hI ih
 obtain ⟨u0, u1, u2⟩ := hI
 dsimp only at u0 u1 u2 ⊢
 refine A6 (st := []) ?_
 refine br ?_ ?_ <;> intro h2_3
 ·(refine B9 (C5 (by first | rfl | assumption | (first | exact B2 Slt.T Slt0 (k := i) (by omega) | exact B2 (Ct.T false) Ct0 (k := i) (by omega) | exact B2 tT ⟨#[]⟩ (k := i3) (by omega) | exact B2 Msg.T Msg0 (k := i) (by omega) | exact B2 Msg.T Msg0 (k := 0) (by omega) | (have e : ((i : Int) - 1).toNat = i - 1 := (by omega); rw [e]; exact B2 Msg.T Msg0 (k := i - 1) (by omega)))) rfl ?_))
  (apply est (u := .agg [.int _ _, .int _ _, .int _ _, .int _ _, .str _, .str _, .str _]) j3; exact Q0; exact Q2; exact j4; exact kb; rfl)
  refine A1 ?_ (by exact Q0) (by exact Q2)
  refine br ?_ ?_ <;> intro h5_3
  ·refine A7 rfl ?_; intro q; obtain ⟨e1, e2, e3, ⟨_, e4⟩, e5⟩ := q i (by omega); first | omega | exact h5_21 e4 | (have := e5 (by omega); omega)
  ·refine A1 ?_ (by exact Q0) (by exact Q2)
   refine A1 ?_ (by exact Q0) (by exact Q2)
   refine br ?_ ?_ <;> intro h5_9
   ·refine A7 rfl ?_; intro q; obtain ⟨e1, e2, e3, ⟨_, e4⟩, e5⟩ := q i (by omega); first | omega | exact h5_21 e4 | (have := e5 (by omega); omega)
   ·refine A1 ?_ (by exact Q0) (by exact Q2)
    refine br ?_ ?_ <;> intro h5_15
    ·refine A7 rfl ?_; intro q; obtain ⟨e1, e2, e3, ⟨_, e4⟩, e5⟩ := q i (by omega); first | omega | exact h5_21 e4 | (have := e5 (by omega); omega)
    ·refine A1 ?_ (by exact Q0) (by exact Q2)
     (apply C3 (vs := [.int _ _, .int _ _, .int _ _, .int _ _, .str _, .str _, .str _]) j2; exact Q0; exact Q2; rfl; exact kb; rfl)
     refine B0 (r93 R.nd (L.getD i Msg0)) rfl j2 ?_ ?_ <;> intro h5_21
     ·refine br ?_ ?_ <;> intro h5_26
      ·refine C0 ?_
       (refine B9 (C5 (by first | rfl | assumption | (first | exact B2 Slt.T Slt0 (k := i) (by omega) | exact B2 (Ct.T false) Ct0 (k := i) (by omega) | exact B2 tT ⟨#[]⟩ (k := i3) (by omega) | exact B2 Msg.T Msg0 (k := i) (by omega) | exact B2 Msg.T Msg0 (k := 0) (by omega) | (have e : ((i : Int) - 1).toNat = i - 1 := (by omega); rw [e]; exact B2 Msg.T Msg0 (k := i - 1) (by omega)))) rfl ?_))
       refine A1 ?_ (by exact Q0) (by exact Q2)
       refine br ?_ ?_ <;> intro h5_36
       ·refine A7 rfl ?_; intro q; obtain ⟨e1, e2, e3, ⟨_, e4⟩, e5⟩ := q i (by omega); first | omega | exact h5_21 e4 | (have := e5 (by omega); omega)
       ·refine C0 ?_
        exact C6 (ih (i + 1, m + 1) ⟨by dsimp only; omega, by dsimp only; omega, C8 u2 ⟨by omega, by omega, by omega, ⟨hn, h5_21⟩, fun _ => by omega⟩⟩ (by dsimp only; omega)) (by (repeat first | exact LE.nil _ | refine LE.unk _ _ ?_ | refine LE.eq _ _ _ rfl ?_)) (by (repeat first | exact A5 | (refine A4 ?_ ?_; exact H8))) (Nat.le_refl _)
      ·refine C0 ?_
       exact C6 (ih (i + 1, m + 1) ⟨by dsimp only; omega, by dsimp only; omega, C8 u2 ⟨by omega, by omega, by omega, ⟨hn, h5_21⟩, fun _ => by omega⟩⟩ (by dsimp only; omega)) (by (repeat first | exact LE.nil _ | refine LE.unk _ _ ?_ | refine LE.eq _ _ _ rfl ?_)) (by (repeat first | exact A5 | (refine A4 ?_ ?_; exact H8))) (Nat.le_refl _)
     ·refine A7 rfl ?_; intro q; obtain ⟨e1, e2, e3, ⟨_, e4⟩, e5⟩ := q i (by omega); first | omega | exact h5_21 e4 | (have := e5 (by omega); omega)
 ·refine B7 rfl ?_; exact fun j hj => u2 j (by omega)
theorem r27 (R : Rep) (hb : TBs 1048576 R.T) : Pure En 27 [.agg R.T] [.one (.bool (decide R.OK))] := by
 obtain ⟨hS0, hS1, hS2, hC0, hC1, hG0, hM0⟩ := Rep.sm hb
 have hl1 : (R.sl.map Slt.T).length = R.sl.length := List.length_map ..
 have hl2 : (R.cs.map (Ct.T false)).length = R.cs.length := List.length_map ..
 have hl3 : (R.lg.map tT).length = R.lg.length := List.length_map ..
 have hl4 : (R.ch.map Msg.T).length = R.ch.length := List.length_map ..
 refine Pure.of_ev (st := []) Tryz.func27 rfl kb ?_
 refine A1 ?_ (by exact Q0) (by exact Q2)
 refine B0 (s49 R.nd) rfl j2 ?_ ?_ <;> intro h1_2
 ·refine A1 ?_ (by exact Q0) (by exact Q2)
  refine A1 ?_ (by exact Q0) (by exact Q2)
  refine D3 ⟨by exact H7, by exact H7⟩ ?_
  refine B0 (O3 _ _ _) rfl j2 ?_ ?_ <;> intro h1_10
  ·refine A1 ?_ (by exact Q0) (by exact Q2)
   refine B0 (O3 _ _ _) rfl j2 ?_ ?_ <;> intro h1_16
   ·refine A1 ?_ (by exact Q0) (by exact Q2)
    refine br ?_ ?_ <;> intro h1_23
    ·refine A7 rfl ?_; rintro ⟨⟨q1, q2, q3, q4, q5, q6, q7⟩, _⟩; first | exact h1_2 q1 | exact h1_10 q2 | exact h1_16 q3 | omega
    ·refine A1 ?_ (by exact Q0) (by exact Q2)
     refine br ?_ ?_ <;> intro h1_29
     ·refine A7 rfl ?_; rintro ⟨⟨q1, q2, q3, q4, q5, q6, q7⟩, _⟩; first | exact h1_2 q1 | exact h1_10 q2 | exact h1_16 q3 | omega
     ·refine A1 ?_ (by exact Q0) (by exact Q2)
      refine br ?_ ?_ <;> intro h1_35
      ·refine A7 rfl ?_; rintro ⟨⟨q1, q2, q3, q4, q5, q6, q7⟩, _⟩; first | exact h1_2 q1 | exact h1_10 q2 | exact h1_16 q3 | omega
      ·refine A1 ?_ (by exact Q0) (by exact Q2)
       refine A1 ?_ (by exact Q0) (by exact Q2)
       refine br ?_ ?_ <;> intro h1_43
       ·refine A7 rfl ?_; rintro ⟨⟨q1, q2, q3, q4, q5, q6, q7⟩, _⟩; first | exact h1_2 q1 | exact h1_10 q2 | exact h1_16 q3 | omega
       ·refine B3 (fun (a : Nat × Nat) => [.unk, .ptr 0 0 0, .unk, .int .i64 a.1]) (fun (a : Nat × Nat) => hp [(0, ⟨[[.int .i64 R.id, .int .i64 R.nd, .int .i64 R.vw, .bool R.ac, .sl false false (R.sl.map Slt.T), .sl false false (R.cs.map (Ct.T false)), .sl false false (R.lg.map tT), .sl false false (R.ch.map Msg.T)]], 8, 54⟩)]) (fun (a : Nat × Nat) => a.2) (fun (a : Nat × Nat) => a.1 ≤ R.sl.length ∧ 1 ≤ a.2 ∧ (∀ j, j < a.1 → slOK R.nd R.vw ((j : Int) + 1) (R.sl.getD j Slt0)) ∧ ∀ j, j < a.1 → ceOK R.nd R.vw ((j : Int) + 1) (R.cs.getD j Ct0)) (fun (a : Nat × Nat) => R.sl.length - a.1) (0, 1) ?_ ?_ ?_ ?_ ?_
        ·exact ⟨Nat.zero_le _, Nat.le_refl _, E6, E6⟩
        ·(repeat first | exact LE.nil _ | refine LE.unk _ _ ?_ | refine LE.eq _ _ _ rfl ?_)
        ·(repeat first | exact A5 | (refine A4 ?_ ?_; exact H8))
        ·exact Nat.le_refl _
        intro ⟨i, m⟩ hI ih
        obtain ⟨u0, u1, u2, u3⟩ := hI
        dsimp only at u0 u1 u2 u3 ⊢
        have hsq : (R.cs.getD i Ct0).sq = ((R.cs.getD i Ct0).ps.getD 0 Msg0).sq := rfl
        have hvw : (R.cs.getD i Ct0).vw = ((R.cs.getD i Ct0).ps.getD 0 Msg0).vw := rfl
        have hl5 : ((R.cs.getD i Ct0).ps.map Msg.T).length = (R.cs.getD i Ct0).ps.length := List.length_map ..
        refine A6 (st := []) ?_
        refine br ?_ ?_ <;> intro h4_1
        ·refine A1 ?_ (by exact Q0) (by exact Q2)
         (refine B9 (C5 (by first | rfl | assumption | exact Q7) rfl ?_))
         (apply est (u := .agg [.str _, _, _, .bool _, .bool _]) j3; exact Q0; exact Q2; exact j4; exact kb; rfl)
         refine A1 ?_ (by exact Q0) (by exact Q2)
         refine br ?_ ?_ <;> intro h7_3
         ·refine A7 rfl ?_; rintro ⟨_, q2, _⟩; obtain ⟨e1, e2, e3⟩ := q2 i (by omega); first | exact h7_23 e2 | exact h7_32 e3 | exact h7_13 (e1 h7_7).2 | (have := e1 (fun e => by rw [e] at h7_3; exact absurd h7_3 (by decide)); omega)
         ·refine A1 ?_ (by exact Q0) (by exact Q2)
          refine br ?_ ?_ <;> intro h7_7
          ·refine A1 ?_ (by exact Q0) (by exact Q2)
           refine A1 ?_ (by exact Q0) (by exact Q2)
           refine B0 (r74 R.nd h1_2 (R.sl.getD i Slt0).bd (by omega)) rfl j2 ?_ ?_ <;> intro h7_13
           ·(apply C3 (vs := [.int _ _, .int _ _, .int _ _, .bool _, _, _, _, _]) j2; exact Q0; exact Q2; rfl; exact kb; rfl)
            refine A1 ?_ (by exact Q0) (by exact Q2)
            refine D3 ⟨by exact H7, by exact H7⟩ ?_
            refine B0 (r75 R h1_2 (R.sl.getD i Slt0).pr 2 ((i : Int) + 1) (hS1 i (by omega))) rfl j2 ?_ ?_ <;> intro h7_23
            ·(apply C3 (vs := [.int _ _, .int _ _, .int _ _, .bool _, _, _, _, _]) j2; exact Q0; exact Q2; rfl; exact kb; rfl)
             refine A1 ?_ (by exact Q0) (by exact Q2)
             refine D3 ⟨by exact H7, by exact H7⟩ ?_
             refine B0 (r75 R h1_2 (R.sl.getD i Slt0).cm 3 ((i : Int) + 1) (hS2 i (by omega))) rfl j2 ?_ ?_ <;> intro h7_32
             ·refine A1 ?_ (by exact Q0) (by exact Q2)
              (refine B9 (C5 (by first | rfl | assumption | exact Q7) rfl ?_))
              (apply est (u := .agg [.str _, _]) j3; exact Q0; exact Q2; exact j4; exact kb; rfl)
              refine A1 ?_ (by exact Q0) (by exact Q2)
              refine br ?_ ?_ <;> intro h10_3
              ·refine A1 ?_ (by exact Q0) (by exact Q2)
               refine br ?_ ?_ <;> intro h11_2
               ·refine A7 rfl ?_; rintro ⟨_, _, q3, _⟩; have := q3 i (by omega) (fun q => h11_2 q.1); have := hce ⟨h1_2, this.1⟩; omega
               ·refine D3 ⟨by exact H7, by exact H7⟩ ?_
                exact C6 (ih (i + 1, m + 1 + 1) ⟨by dsimp only; omega, by dsimp only; omega, C8 u2 ⟨fun q => by first | exact absurd q h7_7 | exact ⟨by omega, h7_13⟩, h7_23, h7_32⟩, C8 u3 (fun q => by first | exact ⟨h13_3, by omega, by omega⟩ | exact absurd ⟨Classical.not_not.1 h11_2, by omega⟩ q)⟩ (by dsimp only; omega)) (by (repeat first | exact LE.nil _ | refine LE.unk _ _ ?_ | refine LE.eq _ _ _ rfl ?_)) (by (repeat first | exact A5 | (refine A4 ?_ ?_; exact H8))) (Nat.le_refl _)
              ·have hq0 := ctP h1_2 (c := R.cs.getD i Ct0)
               refine A1 ?_ (by exact Q0) (by exact Q2)
               (apply C3 (vs := [.str _, _]) j2; exact Q0; exact Q2; rfl; exact kb; rfl)
               refine B0 (r76 R.nd h1_2 (R.cs.getD i Ct0) false) rfl j2 ?_ ?_ <;> intro h13_3
               ·refine A1 ?_ (by exact Q0) (by exact Q2)
                (refine B9 (C5 (by first | rfl | assumption | exact Q7) rfl ?_))
                refine D3 ⟨by exact H7, by exact H7⟩ ?_
                refine br ?_ ?_ <;> intro h13_13
                ·refine A7 rfl ?_; rintro ⟨_, _, q3, _⟩; obtain ⟨e1, e2, e3⟩ := q3 i (by omega) (fun q => absurd q.2 (by omega)); first | exact h13_3 e1 | omega
                ·refine A1 ?_ (by exact Q0) (by exact Q2)
                 (refine B9 (C5 (by first | rfl | assumption | exact Q7) rfl ?_))
                 refine A1 ?_ (by exact Q0) (by exact Q2)
                 refine br ?_ ?_ <;> intro h13_23
                 ·refine A7 rfl ?_; rintro ⟨_, _, q3, _⟩; obtain ⟨e1, e2, e3⟩ := q3 i (by omega) (fun q => absurd q.2 (by omega)); first | exact h13_3 e1 | omega
                 ·refine D3 ⟨by exact H7, by exact H7⟩ ?_
                  exact C6 (ih (i + 1, m + 1 + 1) ⟨by dsimp only; omega, by dsimp only; omega, C8 u2 ⟨fun q => by first | exact absurd q h7_7 | exact ⟨by omega, h7_13⟩, h7_23, h7_32⟩, C8 u3 (fun q => by first | exact ⟨h13_3, by omega, by omega⟩ | exact absurd ⟨Classical.not_not.1 h11_2, by omega⟩ q)⟩ (by dsimp only; omega)) (by (repeat first | exact LE.nil _ | refine LE.unk _ _ ?_ | refine LE.eq _ _ _ rfl ?_)) (by (repeat first | exact A5 | (refine A4 ?_ ?_; exact H8))) (Nat.le_refl _)
               ·refine A7 rfl ?_; rintro ⟨_, _, q3, _⟩; obtain ⟨e1, e2, e3⟩ := q3 i (by omega) (fun q => absurd q.2 (by omega)); first | exact h13_3 e1 | omega
             ·refine A7 rfl ?_; rintro ⟨_, q2, _⟩; obtain ⟨e1, e2, e3⟩ := q2 i (by omega); first | exact h7_23 e2 | exact h7_32 e3 | exact h7_13 (e1 h7_7).2 | (have := e1 (fun e => by rw [e] at h7_3; exact absurd h7_3 (by decide)); omega)
            ·refine A7 rfl ?_; rintro ⟨_, q2, _⟩; obtain ⟨e1, e2, e3⟩ := q2 i (by omega); first | exact h7_23 e2 | exact h7_32 e3 | exact h7_13 (e1 h7_7).2 | (have := e1 (fun e => by rw [e] at h7_3; exact absurd h7_3 (by decide)); omega)
           ·refine A7 rfl ?_; rintro ⟨_, q2, _⟩; obtain ⟨e1, e2, e3⟩ := q2 i (by omega); first | exact h7_23 e2 | exact h7_32 e3 | exact h7_13 (e1 h7_7).2 | (have := e1 (fun e => by rw [e] at h7_3; exact absurd h7_3 (by decide)); omega)
          ·(apply C3 (vs := [.int _ _, .int _ _, .int _ _, .bool _, _, _, _, _]) j2; exact Q0; exact Q2; rfl; exact kb; rfl)
           refine A1 ?_ (by exact Q0) (by exact Q2)
           refine D3 ⟨by exact H7, by exact H7⟩ ?_
           refine B0 (r75 R h1_2 (R.sl.getD i Slt0).pr 2 ((i : Int) + 1) (hS1 i (by omega))) rfl j2 ?_ ?_ <;> intro h7_23
           ·(apply C3 (vs := [.int _ _, .int _ _, .int _ _, .bool _, _, _, _, _]) j2; exact Q0; exact Q2; rfl; exact kb; rfl)
            refine A1 ?_ (by exact Q0) (by exact Q2)
            refine D3 ⟨by exact H7, by exact H7⟩ ?_
            refine B0 (r75 R h1_2 (R.sl.getD i Slt0).cm 3 ((i : Int) + 1) (hS2 i (by omega))) rfl j2 ?_ ?_ <;> intro h7_32
            ·refine A1 ?_ (by exact Q0) (by exact Q2)
             (refine B9 (C5 (by first | rfl | assumption | exact Q7) rfl ?_))
             (apply est (u := .agg [.str _, _]) j3; exact Q0; exact Q2; exact j4; exact kb; rfl)
             refine A1 ?_ (by exact Q0) (by exact Q2)
             refine br ?_ ?_ <;> intro h10_3
             ·refine A1 ?_ (by exact Q0) (by exact Q2)
              refine br ?_ ?_ <;> intro h11_2
              ·refine A7 rfl ?_; rintro ⟨_, _, q3, _⟩; have := q3 i (by omega) (fun q => h11_2 q.1); have := hce ⟨h1_2, this.1⟩; omega
              ·refine D3 ⟨by exact H7, by exact H7⟩ ?_
               exact C6 (ih (i + 1, m + 1 + 1) ⟨by dsimp only; omega, by dsimp only; omega, C8 u2 ⟨fun q => by first | exact absurd q h7_7 | exact ⟨by omega, h7_13⟩, h7_23, h7_32⟩, C8 u3 (fun q => by first | exact ⟨h13_3, by omega, by omega⟩ | exact absurd ⟨Classical.not_not.1 h11_2, by omega⟩ q)⟩ (by dsimp only; omega)) (by (repeat first | exact LE.nil _ | refine LE.unk _ _ ?_ | refine LE.eq _ _ _ rfl ?_)) (by (repeat first | exact A5 | (refine A4 ?_ ?_; exact H8))) (Nat.le_refl _)
             ·have hq0 := ctP h1_2 (c := R.cs.getD i Ct0)
              refine A1 ?_ (by exact Q0) (by exact Q2)
              (apply C3 (vs := [.str _, _]) j2; exact Q0; exact Q2; rfl; exact kb; rfl)
              refine B0 (r76 R.nd h1_2 (R.cs.getD i Ct0) false) rfl j2 ?_ ?_ <;> intro h13_3
              ·refine A1 ?_ (by exact Q0) (by exact Q2)
               (refine B9 (C5 (by first | rfl | assumption | exact Q7) rfl ?_))
               refine D3 ⟨by exact H7, by exact H7⟩ ?_
               refine br ?_ ?_ <;> intro h13_13
               ·refine A7 rfl ?_; rintro ⟨_, _, q3, _⟩; obtain ⟨e1, e2, e3⟩ := q3 i (by omega) (fun q => absurd q.2 (by omega)); first | exact h13_3 e1 | omega
               ·refine A1 ?_ (by exact Q0) (by exact Q2)
                (refine B9 (C5 (by first | rfl | assumption | exact Q7) rfl ?_))
                refine A1 ?_ (by exact Q0) (by exact Q2)
                refine br ?_ ?_ <;> intro h13_23
                ·refine A7 rfl ?_; rintro ⟨_, _, q3, _⟩; obtain ⟨e1, e2, e3⟩ := q3 i (by omega) (fun q => absurd q.2 (by omega)); first | exact h13_3 e1 | omega
                ·refine D3 ⟨by exact H7, by exact H7⟩ ?_
                 exact C6 (ih (i + 1, m + 1 + 1) ⟨by dsimp only; omega, by dsimp only; omega, C8 u2 ⟨fun q => by first | exact absurd q h7_7 | exact ⟨by omega, h7_13⟩, h7_23, h7_32⟩, C8 u3 (fun q => by first | exact ⟨h13_3, by omega, by omega⟩ | exact absurd ⟨Classical.not_not.1 h11_2, by omega⟩ q)⟩ (by dsimp only; omega)) (by (repeat first | exact LE.nil _ | refine LE.unk _ _ ?_ | refine LE.eq _ _ _ rfl ?_)) (by (repeat first | exact A5 | (refine A4 ?_ ?_; exact H8))) (Nat.le_refl _)
              ·refine A7 rfl ?_; rintro ⟨_, _, q3, _⟩; obtain ⟨e1, e2, e3⟩ := q3 i (by omega) (fun q => absurd q.2 (by omega)); first | exact h13_3 e1 | omega
            ·refine A7 rfl ?_; rintro ⟨_, q2, _⟩; obtain ⟨e1, e2, e3⟩ := q2 i (by omega); first | exact h7_23 e2 | exact h7_32 e3 | exact h7_13 (e1 h7_7).2 | (have := e1 (fun e => by rw [e] at h7_3; exact absurd h7_3 (by decide)); omega)
           ·refine A7 rfl ?_; rintro ⟨_, q2, _⟩; obtain ⟨e1, e2, e3⟩ := q2 i (by omega); first | exact h7_23 e2 | exact h7_32 e3 | exact h7_13 (e1 h7_7).2 | (have := e1 (fun e => by rw [e] at h7_3; exact absurd h7_3 (by decide)); omega)
        ·refine B3 (fun (a : Nat) => [.unk, .ptr 0 0 0, .unk, .unk, .unk, .unk, .int .i64 a]) (fun (a : Nat) => hp [(0, ⟨[[.int .i64 R.id, .int .i64 R.nd, .int .i64 R.vw, .bool R.ac, .sl false false (R.sl.map Slt.T), .sl false false (R.cs.map (Ct.T false)), .sl false false (R.lg.map tT), .sl false false (R.ch.map Msg.T)]], 8, 54⟩)]) (fun (a : Nat) => m) (fun (a : Nat) => a ≤ R.lg.length ∧ ∀ j, j < a → lgOK R.nd (R.lg.getD j ⟨#[]⟩)) (fun (a : Nat) => R.lg.length - a) 0 ?_ ?_ ?_ ?_ ?_
         ·exact ⟨Nat.zero_le _, E6⟩
         ·(repeat first | exact LE.nil _ | refine LE.unk _ _ ?_ | refine LE.eq _ _ _ rfl ?_)
         ·(repeat first | exact A5 | (refine A4 ?_ ?_; exact H8))
         ·exact Nat.le_refl _
         intro i3 hI ih
         obtain ⟨w0, w2⟩ := hI
         have hzz : (R.lg.getD ((i3 : Int)).toNat (⟨#[]⟩ : ByteArray)).size = (R.lg.getD i3 (⟨#[]⟩ : ByteArray)).size := rfl
         refine A6 (st := []) ?_
         refine A1 ?_ (by exact Q0) (by exact Q2)
         refine br ?_ ?_ <;> intro h16_4
         ·refine A1 ?_ (by exact Q0) (by exact Q2)
          (refine B9 (C5 (by first | rfl | assumption | exact Q7) rfl ?_))
          refine br ?_ ?_ <;> intro h18_6
          ·refine A7 rfl ?_; rintro ⟨_, _, _, q4, _⟩; obtain ⟨e1, e2⟩ := q4 i3 (by omega); first | omega | exact h18_15 e2
          ·refine A1 ?_ (by exact Q0) (by exact Q2)
           refine A1 ?_ (by exact Q0) (by exact Q2)
           (refine B9 (C5 (by first | rfl | assumption | exact Q7) rfl ?_))
           refine B0 (r74 R.nd h1_2 (R.lg.getD i3 ⟨#[]⟩) (by omega)) rfl j2 ?_ ?_ <;> intro h18_15
           ·refine D3 ⟨by exact H7, by exact H7⟩ ?_
            exact C6 (ih (i3 + 1) ⟨by omega, C8 w2 ⟨by omega, h18_15⟩⟩ (by omega)) (by (repeat first | exact LE.nil _ | refine LE.unk _ _ ?_ | refine LE.eq _ _ _ rfl ?_)) (by (repeat first | exact A5 | (refine A4 ?_ ?_; exact H8))) (Nat.le_refl _)
           ·refine A7 rfl ?_; rintro ⟨_, _, _, q4, _⟩; obtain ⟨e1, e2⟩ := q4 i3 (by omega); first | omega | exact h18_15 e2
         ·refine B3 (fun (a : Nat × Nat) => [.unk, .ptr 0 0 0, .unk, .unk, .unk, .unk, .unk, .int .i64 a.1]) (fun (a : Nat × Nat) => hp [(0, ⟨[[.int .i64 R.id, .int .i64 R.nd, .int .i64 R.vw, .bool R.ac, .sl false false (R.sl.map Slt.T), .sl false false (R.cs.map (Ct.T false)), .sl false false (R.lg.map tT), .sl false false (R.ch.map Msg.T)]], 8, 54⟩)]) (fun (a : Nat × Nat) => a.2) (fun (a : Nat × Nat) => a.1 ≤ R.ch.length ∧ 1 ≤ a.2 ∧ ∀ j, j < a.1 → chOK R.nd R.vw R.ch j) (fun (a : Nat × Nat) => R.ch.length - a.1) (0, m) ?_ ?_ ?_ ?_ ?_
          ·exact ⟨Nat.zero_le _, u1, E6⟩
          ·(repeat first | exact LE.nil _ | refine LE.unk _ _ ?_ | refine LE.eq _ _ _ rfl ?_)
          ·(repeat first | exact A5 | (refine A4 ?_ ?_; exact H8))
          ·exact Nat.le_refl _
          intro ⟨i4, m4⟩ hI ih
          obtain ⟨x0, x1, x2⟩ := hI
          dsimp only at x0 x1 x2 ⊢
          refine A6 (st := []) ?_
          refine A1 ?_ (by exact Q0) (by exact Q2)
          refine br ?_ ?_ <;> intro h21_4
          ·refine A1 ?_ (by exact Q0) (by exact Q2)
           (refine B9 (C5 (by first | rfl | assumption | exact Q7) rfl ?_))
           (apply est (u := .agg [.int _ _, .int _ _, .int _ _, .int _ _, .str _, .str _, .str _]) j3; exact Q0; exact Q2; exact j4; exact kb; rfl)
           refine A1 ?_ (by exact Q0) (by exact Q2)
           (apply C3 (vs := [.int _ _, .int _ _, .int _ _, .int _ _, .str _, .str _, .str _]) j2; exact Q0; exact Q2; rfl; exact kb; rfl)
           refine C1 (r77 R.nd h1_2 (R.ch.getD i4 Msg0)) rfl rfl rfl ?_
           refine brB ?_ ?_ <;> intro h24_6
           ·refine A1 ?_ (by exact Q0) (by exact Q2)
            refine A1 ?_ (by exact Q0) (by exact Q2)
            refine br ?_ ?_ <;> intro h25_7
            ·refine A7 rfl ?_; rintro ⟨_, _, _, _, q5⟩; obtain ⟨e1, e2, e3, e4⟩ := q5 i4 (by omega); first | exact of_decide_eq_false h24_6 e1 | omega | (have := e4 (by omega); omega)
            ·refine A1 ?_ (by exact Q0) (by exact Q2)
             refine A1 ?_ (by exact Q0) (by exact Q2)
             (refine B9 (C5 (by first | rfl | assumption | exact Q7) rfl ?_))
             refine br ?_ ?_ <;> intro h25_17
             ·refine A7 rfl ?_; rintro ⟨_, _, _, _, q5⟩; obtain ⟨e1, e2, e3, e4⟩ := q5 i4 (by omega); first | exact of_decide_eq_false h24_6 e1 | omega | (have := e4 (by omega); omega)
             ·refine br ?_ ?_ <;> intro h25_21
              ·refine A1 ?_ (by exact Q0) (by exact Q2)
               refine D3 ⟨by exact H7, by exact H7⟩ ?_
               (refine B9 (C5 (by first | rfl | assumption | exact Q7) rfl ?_))
               refine A1 ?_ (by exact Q0) (by exact Q2)
               refine br ?_ ?_ <;> intro h25_32
               ·refine A7 rfl ?_; rintro ⟨_, _, _, _, q5⟩; obtain ⟨e1, e2, e3, e4⟩ := q5 i4 (by omega); first | exact of_decide_eq_false h24_6 e1 | omega | (have := e4 (by omega); omega)
               ·refine D3 ⟨by exact H7, by exact H7⟩ ?_
                exact C6 (ih (i4 + 1, m4 + 1) ⟨by dsimp only; omega, by dsimp only; omega, C8 x2 ⟨of_decide_eq_true h24_6, by omega, by omega, fun _ => by omega⟩⟩ (by dsimp only; omega)) (by (repeat first | exact LE.nil _ | refine LE.unk _ _ ?_ | refine LE.eq _ _ _ rfl ?_)) (by (repeat first | exact A5 | (refine A4 ?_ ?_; exact H8))) (Nat.le_refl _)
              ·refine D3 ⟨by exact H7, by exact H7⟩ ?_
               exact C6 (ih (i4 + 1, m4 + 1) ⟨by dsimp only; omega, by dsimp only; omega, C8 x2 ⟨of_decide_eq_true h24_6, by omega, by omega, fun _ => by omega⟩⟩ (by dsimp only; omega)) (by (repeat first | exact LE.nil _ | refine LE.unk _ _ ?_ | refine LE.eq _ _ _ rfl ?_)) (by (repeat first | exact A5 | (refine A4 ?_ ?_; exact H8))) (Nat.le_refl _)
           ·refine A7 rfl ?_; rintro ⟨_, _, _, _, q5⟩; obtain ⟨e1, e2, e3, e4⟩ := q5 i4 (by omega); first | exact of_decide_eq_false h24_6 e1 | omega | (have := e4 (by omega); omega)
          ·refine B7 rfl ?_; exact ⟨⟨h1_2, h1_10, h1_16, by omega, by omega, by omega, by omega⟩, fun j hj => u2 j (by omega), fun j hj => u3 j (by omega), fun j hj => w2 j (by omega), fun j hj => x2 j (by omega)⟩
   ·refine A7 rfl ?_; rintro ⟨⟨q1, q2, q3, q4, q5, q6, q7⟩, _⟩; first | exact h1_2 q1 | exact h1_10 q2 | exact h1_16 q3 | omega
  ·refine A7 rfl ?_; rintro ⟨⟨q1, q2, q3, q4, q5, q6, q7⟩, _⟩; first | exact h1_2 q1 | exact h1_10 q2 | exact h1_16 q3 | omega
 ·refine A7 rfl ?_; rintro ⟨⟨q1, q2, q3, q4, q5, q6, q7⟩, _⟩; first | exact h1_2 q1 | exact h1_10 q2 | exact h1_16 q3 | omega
open Go.V
set_option linter.unusedVariables false
set_option linter.unusedSimpArgs false
set_option maxRecDepth 20000
set_option maxHeartbeats 4000000
theorem r92 (n : Int) (hn : nodes n) (F : List Int) (b : Bool) (hF : F.length ≤ 1048576) : Pure En 92 [.one (.int .i64 n), .one (.sl b (F.map iT))] [.one (.bool (decide (fyOK n F)))] := by
 have hl : (F.map iT).length = F.length := List.length_map ..
 rcases hn with rfl | rfl | rfl
 ·refine Pure.of_ev (st := []) Tryz.func92 rfl kb ?_
  refine C0 ?_
  refine B9 ?_
  refine br ?_ ?_ <;> intro h1_5
  ·have hk : IntKind.i64.wrap (Int.tdiv (1 - 1) 3) = 0 := rfl
   refine A7 rfl ?_; rintro ⟨q1, _⟩; omega
  ·have hk : IntKind.i64.wrap (Int.tdiv (1 - 1) 3) = 0 := rfl
   have hk2 : (F.length : Int) ≤ 0 := by omega
   refine C4 (fun (i : Nat) => [.int .i64 1, .sl false b (F.map iT), .unk, .unk, .unk, .int .i64 i]) (fun (i : Nat) => i ≤ F.length ∧ ∀ j, j < i → (0 ≤ F.getD j 0 ∧ F.getD j 0 ≤ 1 - 1) ∧ (0 < j → F.getD (j - 1) 0 < F.getD j 0)) (fun (i : Nat) => F.length - i) 0 ?_ ?_ ?_
   ·exact ⟨Nat.zero_le _, E6⟩
   ·(repeat first | exact LE.nil _ | refine LE.unk _ _ ?_ | refine LE.eq _ _ _ rfl ?_)
   intro i hI ih
   obtain ⟨u0, u2⟩ := hI
   refine A6 (st := []) ?_
   refine br ?_ ?_ <;> intro h4_3
   ·(refine B9 (C5 (by first | rfl | assumption | exact Q20) rfl ?_))
    refine C0 ?_
    refine B0 (O3 _ _ _) rfl j2 ?_ ?_ <;> intro h6_6
    ·refine br ?_ ?_ <;> intro h6_10
     ·refine C0 ?_
      (refine B9 (C5 (by first | rfl | assumption | exact Q20) rfl ?_))
      (refine B9 (C5 (by first | rfl | assumption | exact Q20) rfl ?_))
      refine br ?_ ?_ <;> intro h6_21
      ·refine A7 rfl ?_; rintro ⟨_, q⟩; obtain ⟨e1, e2⟩ := q i (by omega); first | exact h6_6 e1 | (have := e2 (by omega); omega)
      ·refine C0 ?_
       exact N4 (ih (i + 1) ⟨by omega, C8 u2 ⟨h6_6, fun _ => by omega⟩⟩ (by omega)) (by (repeat first | exact LE.nil _ | refine LE.unk _ _ ?_ | refine LE.eq _ _ _ rfl ?_))
     ·refine C0 ?_
      exact N4 (ih (i + 1) ⟨by omega, C8 u2 ⟨h6_6, fun _ => by omega⟩⟩ (by omega)) (by (repeat first | exact LE.nil _ | refine LE.unk _ _ ?_ | refine LE.eq _ _ _ rfl ?_))
    ·refine A7 rfl ?_; rintro ⟨_, q⟩; obtain ⟨e1, e2⟩ := q i (by omega); first | exact h6_6 e1 | (have := e2 (by omega); omega)
   ·refine B7 rfl ?_; exact ⟨by omega, fun j hj => u2 j (by omega)⟩
 ·refine Pure.of_ev (st := []) Tryz.func92 rfl kb ?_
  refine C0 ?_
  refine B9 ?_
  refine br ?_ ?_ <;> intro h1_5
  ·have hk : IntKind.i64.wrap (Int.tdiv (4 - 1) 3) = 1 := rfl
   refine A7 rfl ?_; rintro ⟨q1, _⟩; omega
  ·have hk : IntKind.i64.wrap (Int.tdiv (4 - 1) 3) = 1 := rfl
   have hk2 : (F.length : Int) ≤ 1 := by omega
   refine C4 (fun (i : Nat) => [.int .i64 4, .sl false b (F.map iT), .unk, .unk, .unk, .int .i64 i]) (fun (i : Nat) => i ≤ F.length ∧ ∀ j, j < i → (0 ≤ F.getD j 0 ∧ F.getD j 0 ≤ 4 - 1) ∧ (0 < j → F.getD (j - 1) 0 < F.getD j 0)) (fun (i : Nat) => F.length - i) 0 ?_ ?_ ?_
   ·exact ⟨Nat.zero_le _, E6⟩
   ·(repeat first | exact LE.nil _ | refine LE.unk _ _ ?_ | refine LE.eq _ _ _ rfl ?_)
   intro i hI ih
   obtain ⟨u0, u2⟩ := hI
   refine A6 (st := []) ?_
   refine br ?_ ?_ <;> intro h4_3
   ·(refine B9 (C5 (by first | rfl | assumption | exact Q20) rfl ?_))
    refine C0 ?_
    refine B0 (O3 _ _ _) rfl j2 ?_ ?_ <;> intro h6_6
    ·refine br ?_ ?_ <;> intro h6_10
     ·refine C0 ?_
      (refine B9 (C5 (by first | rfl | assumption | exact Q20) rfl ?_))
      (refine B9 (C5 (by first | rfl | assumption | exact Q20) rfl ?_))
      refine br ?_ ?_ <;> intro h6_21
      ·refine A7 rfl ?_; rintro ⟨_, q⟩; obtain ⟨e1, e2⟩ := q i (by omega); first | exact h6_6 e1 | (have := e2 (by omega); omega)
      ·refine C0 ?_
       exact N4 (ih (i + 1) ⟨by omega, C8 u2 ⟨h6_6, fun _ => by omega⟩⟩ (by omega)) (by (repeat first | exact LE.nil _ | refine LE.unk _ _ ?_ | refine LE.eq _ _ _ rfl ?_))
     ·refine C0 ?_
      exact N4 (ih (i + 1) ⟨by omega, C8 u2 ⟨h6_6, fun _ => by omega⟩⟩ (by omega)) (by (repeat first | exact LE.nil _ | refine LE.unk _ _ ?_ | refine LE.eq _ _ _ rfl ?_))
    ·refine A7 rfl ?_; rintro ⟨_, q⟩; obtain ⟨e1, e2⟩ := q i (by omega); first | exact h6_6 e1 | (have := e2 (by omega); omega)
   ·refine B7 rfl ?_; exact ⟨by omega, fun j hj => u2 j (by omega)⟩
 ·refine Pure.of_ev (st := []) Tryz.func92 rfl kb ?_
  refine C0 ?_
  refine B9 ?_
  refine br ?_ ?_ <;> intro h1_5
  ·have hk : IntKind.i64.wrap (Int.tdiv (7 - 1) 3) = 2 := rfl
   refine A7 rfl ?_; rintro ⟨q1, _⟩; omega
  ·have hk : IntKind.i64.wrap (Int.tdiv (7 - 1) 3) = 2 := rfl
   have hk2 : (F.length : Int) ≤ 2 := by omega
   refine C4 (fun (i : Nat) => [.int .i64 7, .sl false b (F.map iT), .unk, .unk, .unk, .int .i64 i]) (fun (i : Nat) => i ≤ F.length ∧ ∀ j, j < i → (0 ≤ F.getD j 0 ∧ F.getD j 0 ≤ 7 - 1) ∧ (0 < j → F.getD (j - 1) 0 < F.getD j 0)) (fun (i : Nat) => F.length - i) 0 ?_ ?_ ?_
   ·exact ⟨Nat.zero_le _, E6⟩
   ·(repeat first | exact LE.nil _ | refine LE.unk _ _ ?_ | refine LE.eq _ _ _ rfl ?_)
   intro i hI ih
   obtain ⟨u0, u2⟩ := hI
   refine A6 (st := []) ?_
   refine br ?_ ?_ <;> intro h4_3
   ·(refine B9 (C5 (by first | rfl | assumption | exact Q20) rfl ?_))
    refine C0 ?_
    refine B0 (O3 _ _ _) rfl j2 ?_ ?_ <;> intro h6_6
    ·refine br ?_ ?_ <;> intro h6_10
     ·refine C0 ?_
      (refine B9 (C5 (by first | rfl | assumption | exact Q20) rfl ?_))
      (refine B9 (C5 (by first | rfl | assumption | exact Q20) rfl ?_))
      refine br ?_ ?_ <;> intro h6_21
      ·refine A7 rfl ?_; rintro ⟨_, q⟩; obtain ⟨e1, e2⟩ := q i (by omega); first | exact h6_6 e1 | (have := e2 (by omega); omega)
      ·refine C0 ?_
       exact N4 (ih (i + 1) ⟨by omega, C8 u2 ⟨h6_6, fun _ => by omega⟩⟩ (by omega)) (by (repeat first | exact LE.nil _ | refine LE.unk _ _ ?_ | refine LE.eq _ _ _ rfl ?_))
     ·refine C0 ?_
      exact N4 (ih (i + 1) ⟨by omega, C8 u2 ⟨h6_6, fun _ => by omega⟩⟩ (by omega)) (by (repeat first | exact LE.nil _ | refine LE.unk _ _ ?_ | refine LE.eq _ _ _ rfl ?_))
    ·refine A7 rfl ?_; rintro ⟨_, q⟩; obtain ⟨e1, e2⟩ := q i (by omega); first | exact h6_6 e1 | (have := e2 (by omega); omega)
   ·refine B7 rfl ?_; exact ⟨by omega, fun j hj => u2 j (by omega)⟩
theorem r32 (G : Grp) (hb : TBs 1048576 G.T) : Pure En 32 [.agg G.T] [.one (.bool (decide G.OK))] := by
 obtain ⟨hF, hR0, hR, hW, hS⟩ := Grp.sm hb
 have hl1 : (G.fa.map iT).length = G.fa.length := List.length_map ..
 have hl2 : (G.rs.map Rep.T).length = G.rs.length := List.length_map ..
 have hl3 : (G.wi.map Pc.T).length = G.wi.length := List.length_map ..
 have hl4 : (G.se.map Msg.T).length = G.se.length := List.length_map ..
 refine Pure.of_ev (st := []) Tryz.func32 rfl kb ?_
 refine A1 ?_ (by exact Q0) (by exact Q2)
 refine B0 (s49 G.nd) rfl j2 ?_ ?_ <;> intro h1_2
 ·refine A1 ?_ (by exact Q0) (by exact Q2)
  refine A1 ?_ (by exact Q0) (by exact Q2)
  refine B0 (r92 G.nd h1_2 G.fa false hF) rfl j2 ?_ ?_ <;> intro h1_9
  ·refine A1 ?_ (by exact Q0) (by exact Q2)
   refine A1 ?_ (by exact Q0) (by exact Q2)
   refine br ?_ ?_ <;> intro h1_18
   ·refine A7 rfl ?_; rintro ⟨⟨q1, q2, q3, q4, q5⟩, _⟩; first | exact h1_2 q1 | exact h1_9 q2 | omega
   ·refine A1 ?_ (by exact Q0) (by exact Q2)
    refine br ?_ ?_ <;> intro h1_24
    ·refine A7 rfl ?_; rintro ⟨⟨q1, q2, q3, q4, q5⟩, _⟩; first | exact h1_2 q1 | exact h1_9 q2 | omega
    ·refine A1 ?_ (by exact Q0) (by exact Q2)
     refine br ?_ ?_ <;> intro h1_30
     ·refine A7 rfl ?_; rintro ⟨⟨q1, q2, q3, q4, q5⟩, _⟩; first | exact h1_2 q1 | exact h1_9 q2 | omega
     ·refine B3 (fun (i : Nat) => [.unk, .ptr 0 0 0, .unk, .int .i64 i]) (fun (i : Nat) => hp [(0, ⟨[[.int .i64 G.nd, .sl false false (G.fa.map iT), .sl false false (G.rs.map Rep.T), .sl false false (G.wi.map Pc.T), .sl false false (G.se.map Msg.T)]], 5, 67⟩)]) (fun (i : Nat) => 1) (fun (i : Nat) => i ≤ G.rs.length ∧ ∀ j, j < i → rsOK G.nd G.rs j) (fun (i : Nat) => G.rs.length - i) 0 ?_ ?_ ?_ ?_ ?_
      ·exact ⟨Nat.zero_le _, E6⟩
      ·(repeat first | exact LE.nil _ | refine LE.unk _ _ ?_ | refine LE.eq _ _ _ rfl ?_)
      ·(repeat first | exact A5 | (refine A4 ?_ ?_; exact H8))
      ·exact Nat.le_refl _
      intro i hI ih
      obtain ⟨u0, u2⟩ := hI
      refine A6 (st := []) ?_
      refine A1 ?_ (by exact Q0) (by exact Q2)
      refine br ?_ ?_ <;> intro h4_3
      ·refine A1 ?_ (by exact Q0) (by exact Q2)
       (refine B9 (C5 (by first | rfl | assumption | exact Q34) rfl ?_))
       refine br ?_ ?_ <;> intro h6_7
       ·refine A7 rfl ?_; rintro ⟨_, q2, _⟩; obtain ⟨e1, e2, e3⟩ := q2 i (by omega); first | omega | exact h6_25 e3
       ·refine A1 ?_ (by exact Q0) (by exact Q2)
        (refine B9 (C5 (by first | rfl | assumption | exact Q34) rfl ?_))
        refine A1 ?_ (by exact Q0) (by exact Q2)
        refine br ?_ ?_ <;> intro h6_17
        ·refine A7 rfl ?_; rintro ⟨_, q2, _⟩; obtain ⟨e1, e2, e3⟩ := q2 i (by omega); first | omega | exact h6_25 e3
        ·refine A1 ?_ (by exact Q0) (by exact Q2)
         (refine B9 (C5 (by first | rfl | assumption | exact Q34) rfl ?_))
         refine B0 (r27 (G.rs.getD i Rep0) (hR i (by omega))) rfl j2 ?_ ?_ <;> intro h6_25
         ·refine D3 ⟨by exact H7, by exact H7⟩ ?_
          exact C6 (ih (i + 1) ⟨by omega, C8 u2 ⟨by omega, by omega, h6_25⟩⟩ (by omega)) (by (repeat first | exact LE.nil _ | refine LE.unk _ _ ?_ | refine LE.eq _ _ _ rfl ?_)) (by (repeat first | exact A5 | (refine A4 ?_ ?_; exact H8))) (Nat.le_refl _)
         ·refine A7 rfl ?_; rintro ⟨_, q2, _⟩; obtain ⟨e1, e2, e3⟩ := q2 i (by omega); first | omega | exact h6_25 e3
      ·refine B3 (fun (i2 : Nat) => [.unk, .ptr 0 0 0, .unk, .unk, .int .i64 i2]) (fun (i2 : Nat) => hp [(0, ⟨[[.int .i64 G.nd, .sl false false (G.fa.map iT), .sl false false (G.rs.map Rep.T), .sl false false (G.wi.map Pc.T), .sl false false (G.se.map Msg.T)]], 5, 67⟩)]) (fun (i2 : Nat) => 1) (fun (i2 : Nat) => i2 ≤ G.wi.length ∧ ∀ j, j < i2 → pcOK G.nd (G.wi.getD j Pc0)) (fun (i2 : Nat) => G.wi.length - i2) 0 ?_ ?_ ?_ ?_ ?_
       ·exact ⟨Nat.zero_le _, E6⟩
       ·(repeat first | exact LE.nil _ | refine LE.unk _ _ ?_ | refine LE.eq _ _ _ rfl ?_)
       ·(repeat first | exact A5 | (refine A4 ?_ ?_; exact H8))
       ·exact Nat.le_refl _
       intro i2 hI ih
       obtain ⟨v0, v2⟩ := hI
       refine A6 (st := []) ?_
       refine A1 ?_ (by exact Q0) (by exact Q2)
       refine br ?_ ?_ <;> intro h9_4
       ·refine A1 ?_ (by exact Q0) (by exact Q2)
        (refine B9 (C5 (by first | rfl | assumption | exact Q34) rfl ?_))
        refine A1 ?_ (by exact Q0) (by exact Q2)
        refine D3 ⟨by exact H7, by exact H7⟩ ?_
        refine B0 (O3 _ _ _) rfl j2 ?_ ?_ <;> intro h11_9
        ·refine A1 ?_ (by exact Q0) (by exact Q2)
         refine A1 ?_ (by exact Q0) (by exact Q2)
         (refine B9 (C5 (by first | rfl | assumption | exact Q34) rfl ?_))
         refine B0 (r93 G.nd (G.wi.getD i2 Pc0).ms) rfl j2 ?_ ?_ <;> intro h11_20
         ·refine D3 ⟨by exact H7, by exact H7⟩ ?_
          exact C6 (ih (i2 + 1) ⟨by omega, C8 v2 ⟨h11_9, h11_20⟩⟩ (by omega)) (by (repeat first | exact LE.nil _ | refine LE.unk _ _ ?_ | refine LE.eq _ _ _ rfl ?_)) (by (repeat first | exact A5 | (refine A4 ?_ ?_; exact H8))) (Nat.le_refl _)
         ·refine A7 rfl ?_; rintro ⟨_, _, q3, _⟩; obtain ⟨e1, e2⟩ := q3 i2 (by omega); first | exact h11_9 e1 | exact h11_20 e2
        ·refine A7 rfl ?_; rintro ⟨_, _, q3, _⟩; obtain ⟨e1, e2⟩ := q3 i2 (by omega); first | exact h11_9 e1 | exact h11_20 e2
       ·refine B3 (fun (i3 : Nat) => [.unk, .ptr 0 0 0, .unk, .unk, .unk, .int .i64 i3]) (fun (i3 : Nat) => hp [(0, ⟨[[.int .i64 G.nd, .sl false false (G.fa.map iT), .sl false false (G.rs.map Rep.T), .sl false false (G.wi.map Pc.T), .sl false false (G.se.map Msg.T)]], 5, 67⟩)]) (fun (i3 : Nat) => 1) (fun (i3 : Nat) => i3 ≤ G.se.length ∧ ∀ j, j < i3 → sgM G.nd (G.se.getD j Msg0)) (fun (i3 : Nat) => G.se.length - i3) 0 ?_ ?_ ?_ ?_ ?_
        ·exact ⟨Nat.zero_le _, E6⟩
        ·(repeat first | exact LE.nil _ | refine LE.unk _ _ ?_ | refine LE.eq _ _ _ rfl ?_)
        ·(repeat first | exact A5 | (refine A4 ?_ ?_; exact H8))
        ·exact Nat.le_refl _
        intro i3 hI ih
        obtain ⟨w0, w2⟩ := hI
        refine A6 (st := []) ?_
        refine A1 ?_ (by exact Q0) (by exact Q2)
        refine br ?_ ?_ <;> intro h14_4
        ·refine A1 ?_ (by exact Q0) (by exact Q2)
         refine A1 ?_ (by exact Q0) (by exact Q2)
         (refine B9 (C5 (by first | rfl | assumption | exact Q34) rfl ?_))
         refine B0 (r93 G.nd (G.se.getD i3 Msg0)) rfl j2 ?_ ?_ <;> intro h16_7
         ·refine D3 ⟨by exact H7, by exact H7⟩ ?_
          exact C6 (ih (i3 + 1) ⟨by omega, C8 w2 h16_7⟩ (by omega)) (by (repeat first | exact LE.nil _ | refine LE.unk _ _ ?_ | refine LE.eq _ _ _ rfl ?_)) (by (repeat first | exact A5 | (refine A4 ?_ ?_; exact H8))) (Nat.le_refl _)
         ·refine A7 rfl ?_; rintro ⟨_, _, _, q4⟩; exact h16_7 (q4 i3 (by omega))
        ·refine B7 rfl ?_; exact ⟨⟨h1_2, h1_9, by omega, by omega, by omega⟩, fun j hj => u2 j (by omega), fun j hj => v2 j (by omega), fun j hj => w2 j (by omega)⟩
  ·refine A7 rfl ?_; rintro ⟨⟨q1, q2, q3, q4, q5⟩, _⟩; first | exact h1_2 q1 | exact h1_9 q2 | omega
 ·refine A7 rfl ?_; rintro ⟨⟨q1, q2, q3, q4, q5⟩, _⟩; first | exact h1_2 q1 | exact h1_9 q2 | omega
open Go.V
set_option linter.unusedVariables false
set_option linter.unusedSimpArgs false
set_option maxRecDepth 20000
set_option maxHeartbeats 4000000
def cnt (L : List Cr) (id : Int) : Nat → Int
 | 0 => 0
 | i + 1 => cnt L id i + (if (L.getD i Cr0).cl = id then 1 else 0)
theorem F6 {L : List Cr} {id : Int} {i : Nat} (h : (L.getD i Cr0).cl = id) : cnt L id (i + 1) = cnt L id i + 1 := by
 show cnt L id i + (if (L.getD i Cr0).cl = id then 1 else 0) = _
 rw [if_pos h]
theorem L3 {L : List Cr} {id : Int} {i : Nat} (h : (L.getD i Cr0).cl ≠ id) : cnt L id (i + 1) = cnt L id i := by
 show cnt L id i + (if (L.getD i Cr0).cl = id then 1 else 0) = _
 rw [if_neg h]; omega
theorem cnt_bd (L : List Cr) (id : Int) : ∀ i, 0 ≤ cnt L id i ∧ cnt L id i ≤ i
 | 0 => ⟨Int.le_refl _, Int.le_refl _⟩
 | i + 1 => by
  have := cnt_bd L id i
  by_cases h : (L.getD i Cr0).cl = id
  ·rw [F6 h]; omega
  ·rw [L3 h]; omega
def crA (tm : Int) (bz : Bool) (st : Int) (x : Cr) (id sp : Int) : Prop := x.st = sp ∧ (x.rq.OK ∧ x.rq.cl = id ∧ x.rq.st = sp) ∧ (1 ≤ x.bg ∧ x.bg ≤ tm) ∧ (((bz = true ∧ sp = st) ∧ x.en = -1) ∨ (x.bg ≤ x.en ∧ x.en ≤ tm))
def acOK (W : Wd) (c : Cl) : Prop := (∀ j, j < W.cr.length → (W.cr.getD j Cr0).cl = c.id → crA W.tm c.bz c.st (W.cr.getD j Cr0) c.id (cnt W.cr c.id (j + 1))) ∧ cnt W.cr c.id W.cr.length = c.st
def Wd.hd (W : Wd) : Prop := W.gp.OK ∧ W.cs.length = 3 ∧ W.cr.length ≤ 300 ∧ (0 ≤ W.tm ∧ W.tm ≤ 300)
def hasC (W : Wd) (x : Int) : Prop := anyP (fun c : Cl => c.id = x) W.cs
def Wd.OK (W : Wd) : Prop := W.hd ∧ (∀ i, i < W.cs.length → (W.cs.getD i Cl0).id = 10 + (i : Int) ∧ (W.cs.getD i Cl0).OK W.gp.nd ∧ acOK W (W.cs.getD i Cl0)) ∧ ∀ j, j < W.cr.length → hasC W (W.cr.getD j Cr0).cl
structure AC where
 i : Nat
 m : Nat
 k : Int
 g : Heap
structure AcI (W : Wd) (c : Cl) (h : Heap) (n : Nat) (cb : Blk) (a : AC) : Prop where
 il : a.i ≤ W.cr.length
 nm : n + 1 + a.i = a.m
 kk : a.k = cnt W.cr c.id a.i
 ok : ∀ j, j < a.i → (W.cr.getD j Cr0).cl = c.id → crA W.tm c.bz c.st (W.cr.getD j Cr0) c.id (cnt W.cr c.id (j + 1))
 old : ∀ j b, j < n → h j = some b → a.g j = some b
 cb : a.g n = some cb
noncomputable instance dcAc (W : Wd) (c : Cl) : Decidable (acOK W c) := Classical.propDecidable _
noncomputable instance dcHc (W : Wd) (x : Int) : Decidable (¬ hasC W x) := Classical.propDecidable _
noncomputable instance dcWd (W : Wd) : Decidable W.OK := Classical.propDecidable _
theorem o133 (W : Wd) (c : Cl) (hcr : W.cr.length ≤ 1048576) {id : Nat} {h : Heap} {n : Nat} (hid : id < n) (hh : h id = some ⟨[[.int .i64 W.gp.nd, .sl false false (W.gp.fa.map iT), .sl false false (W.gp.rs.map Rep.T), .sl false false (W.gp.wi.map Pc.T), .sl false false (W.gp.se.map Msg.T), .sl false false (W.cs.map ClT), .sl false false (W.cr.map Cr.T), .int .i64 W.tm]], 8, 92⟩) : V.Open En 133 [.ptr id 0 0, .agg [.int .i64 c.id, .int .i64 c.st, .bool c.bz, .int .i64 c.rq.cl, .int .i64 c.rq.st, .int .i64 c.rq.kd, .int .i64 c.rq.le, .str c.rq.nm, .sl false false (c.rps.map Rp.T), .sl false false (c.acc.map An.T)]] h n (.bool (decide (acOK W c))) [] (n + 1 + W.cr.length) := by
 have hl : (W.cr.map Cr.T).length = W.cr.length := List.length_map ..
 refine V.Open.of_ev (st := [12]) Tryz.func133 rfl kb ?_
 refine A1 ?_ (by exact Q5) (by exact Q2)
 refine wlG fun g0 hg0 => ?_
 refine B3 (fun (a : AC) => [.ptr id 0 0, .unk, .unk, .ptr n 0 0, .unk, .int .i64 a.k, .unk, .unk, .unk, .unk, .unk, .unk, .sl false false (W.cr.map Cr.T), .int .i64 ((W.cr.map Cr.T).length : Int), .int .i64 a.i]) (fun (a : AC) => a.g) (fun (a : AC) => a.m) (fun (a : AC) => AcI W c h n ⟨[[.int .i64 c.id, .int .i64 c.st, .bool c.bz, .int .i64 c.rq.cl, .int .i64 c.rq.st, .int .i64 c.rq.kd, .int .i64 c.rq.le, .str c.rq.nm, .sl false false (c.rps.map Rp.T), .sl false false (c.acc.map An.T)]], 10, 172⟩ a) (fun (a : AC) => W.cr.length - a.i) ⟨0, n + 1, 0, g0⟩ ?_ ?_ ?_ ?_ ?_
 ·exact ⟨Nat.zero_le _, rfl, rfl, E6, fun j bb hj hb => by dsimp only; rw [hg0]; (simp (disch := (first | omega | assumption)) only [↓appC, ↓updN, ↓updS, ↓app0]); exact hb, by dsimp only; rw [hg0]; exact Q5⟩
 ·(repeat first | exact LE.nil _ | refine LE.unk _ _ ?_ | refine LE.eq _ _ _ rfl ?_)
 ·exact LessH.refl _
 ·exact Nat.le_refl _
 intro ⟨i, m, k, g⟩ hI ih
 have u0 := hI.il
 have u1 := hI.nm
 have u2 := hI.kk
 have u3 := hI.ok
 have hg1 := hI.cb
 have hg2 := hI.old id _ hid hh
 dsimp only at u0 u1 u2 u3 hg1 hg2 ⊢
 have hk := cnt_bd W.cr c.id i
 refine A6 (st := [12]) ?_
 refine br ?_ ?_ <;> intro h3_0
 ·(refine B9 (C5 (by first | rfl | assumption | (exact B2 Cr.T Cr0 (k := i) (by omega))) rfl ?_))
  (apply est (u := .agg [.int _ _, .int _ _, .int _ _, .int _ _, .int _ _, .int _ _, .str _, .int _ _, .int _ _, .int _ _, .int _ _, .int _ _, .int _ _]) j3; exact Q5; exact Q2; exact j4; exact kb; rfl)
  refine A1 ?_ (by exact Q5) (by exact Q2)
  refine A1 ?_ (by exact Q5) (by exact Q2)
  refine br ?_ ?_ <;> intro h5_4
  ·refine O4 fun GG hGG => ?_
   refine C0 ?_
   first
   | exact C6 (ih ⟨i + 1, m + 1, k, GG⟩ ⟨by dsimp only; omega, by dsimp only; omega, by dsimp only; rw [L3 h5_4]; exact u2, C8 u3 (fun q => absurd q h5_4), fun j bb hj hb => by dsimp only; rw [hGG]; have h9 := hI.old j bb hj hb; dsimp only at h9; (simp (disch := (first | omega | assumption)) only [↓appC, ↓updN, ↓updS, ↓app0]); exact h9, by dsimp only; rw [hGG]; have h9 := hI.cb; dsimp only at h9; (simp (disch := (first | omega | assumption)) only [↓appC, ↓updN, ↓updS, ↓app0]); exact h9⟩ (by dsimp only; omega)) (by (repeat first | exact LE.nil _ | refine LE.unk _ _ ?_ | refine LE.eq _ _ _ rfl ?_)) (LessH.refl _) (Nat.le_refl _)
   | exact C6 (ih ⟨i + 1, m + 1, k + 1, GG⟩ ⟨by dsimp only; omega, by dsimp only; omega, by dsimp only; rw [F6 (Classical.not_not.1 h5_4)]; omega, C8 u3 (fun q => by rw [F6 (Classical.not_not.1 h5_4)]; exact ⟨by omega, by rw [← u2]; exact h7_10, h7_20, by first | exact .inr h10_16 | exact .inl ⟨⟨h9_1, by omega⟩, by omega⟩⟩), fun j bb hj hb => by dsimp only; rw [hGG]; have h9 := hI.old j bb hj hb; dsimp only at h9; (simp (disch := (first | omega | assumption)) only [↓appC, ↓updN, ↓updS, ↓app0]); exact h9, by dsimp only; rw [hGG]; have h9 := hI.cb; dsimp only at h9; (simp (disch := (first | omega | assumption)) only [↓appC, ↓updN, ↓updS, ↓app0]); exact h9⟩ (by dsimp only; omega)) (by (repeat first | exact LE.nil _ | refine LE.unk _ _ ?_ | refine LE.eq _ _ _ rfl ?_)) (LessH.refl _) (Nat.le_refl _)
  ·refine C0 ?_
   refine A1 ?_ (by exact Q5) (by exact Q2)
   refine br ?_ ?_ <;> intro h7_3
   ·rw [decide_eq_false (show ¬ acOK W c from fun q => by have e := q.1 i (by omega) (Classical.not_not.1 h5_4); rw [F6 (Classical.not_not.1 h5_4), ← u2] at e; obtain ⟨e1, e2, e3, e4⟩ := e; first | omega | exact h7_10 e2 | exact h7_20 e3)]; exact fiO rfl rfl (fun hz2 id2 b2 hb2 => by (have hb2 : h id2 = some b2 := hb2; have h1 : id2 < n := Nat.lt_of_not_le (fun q => by rw [hz2 id2 q] at hb2; cases hb2); have h9 := hI.old id2 b2 h1 hb2; dsimp only at h9; first | exact h9 | ((simp (disch := (first | omega | assumption)) only [↓appC, ↓updN, ↓updS, ↓app0]); exact h9))) (by omega)
   ·(apply C3 (vs := [.int _ _, .int _ _, .int _ _, .int _ _, .str _]) j2; exact Q5; exact Q2; rfl; exact kb; rfl)
    refine A1 ?_ (by exact Q5) (by exact Q2)
    refine B0 (p26 (W.cr.getD i Cr0).rq _ _) rfl j2 ?_ ?_ <;> intro h7_10
    ·refine A1 ?_ (by exact Q5) (by exact Q2)
     refine A1 ?_ (by exact Q5) (by exact Q2)
     refine B0 (L4 _ _ _) rfl j2 ?_ ?_ <;> intro h7_20
     ·refine A1 ?_ (by exact Q5) (by exact Q2)
      refine brB ?_ ?_ <;> intro h9_1
      ·refine A1 ?_ (by exact Q5) (by exact Q2)
       refine br ?_ ?_ <;> intro h9_6
       ·refine A1 ?_ (by exact Q5) (by exact Q2)
        refine br ?_ ?_ <;> intro h10_5
        ·refine A1 ?_ (by exact Q5) (by exact Q2)
         refine A1 ?_ (by exact Q5) (by exact Q2)
         refine A1 ?_ (by exact Q5) (by exact Q2)
         refine B0 (L4 _ _ _) rfl j2 ?_ ?_ <;> intro h10_16
         ·refine O4 fun GG hGG => ?_
          refine C0 ?_
          first
          | exact C6 (ih ⟨i + 1, m + 1, k, GG⟩ ⟨by dsimp only; omega, by dsimp only; omega, by dsimp only; rw [L3 h5_4]; exact u2, C8 u3 (fun q => absurd q h5_4), fun j bb hj hb => by dsimp only; rw [hGG]; have h9 := hI.old j bb hj hb; dsimp only at h9; (simp (disch := (first | omega | assumption)) only [↓appC, ↓updN, ↓updS, ↓app0]); exact h9, by dsimp only; rw [hGG]; have h9 := hI.cb; dsimp only at h9; (simp (disch := (first | omega | assumption)) only [↓appC, ↓updN, ↓updS, ↓app0]); exact h9⟩ (by dsimp only; omega)) (by (repeat first | exact LE.nil _ | refine LE.unk _ _ ?_ | refine LE.eq _ _ _ rfl ?_)) (LessH.refl _) (Nat.le_refl _)
          | exact C6 (ih ⟨i + 1, m + 1, k + 1, GG⟩ ⟨by dsimp only; omega, by dsimp only; omega, by dsimp only; rw [F6 (Classical.not_not.1 h5_4)]; omega, C8 u3 (fun q => by rw [F6 (Classical.not_not.1 h5_4)]; exact ⟨by omega, by rw [← u2]; exact h7_10, h7_20, by first | exact .inr h10_16 | exact .inl ⟨⟨h9_1, by omega⟩, by omega⟩⟩), fun j bb hj hb => by dsimp only; rw [hGG]; have h9 := hI.old j bb hj hb; dsimp only at h9; (simp (disch := (first | omega | assumption)) only [↓appC, ↓updN, ↓updS, ↓app0]); exact h9, by dsimp only; rw [hGG]; have h9 := hI.cb; dsimp only at h9; (simp (disch := (first | omega | assumption)) only [↓appC, ↓updN, ↓updS, ↓app0]); exact h9⟩ (by dsimp only; omega)) (by (repeat first | exact LE.nil _ | refine LE.unk _ _ ?_ | refine LE.eq _ _ _ rfl ?_)) (LessH.refl _) (Nat.le_refl _)
         ·rw [decide_eq_false (show ¬ acOK W c from fun q => by have e := q.1 i (by omega) (Classical.not_not.1 h5_4); rw [F6 (Classical.not_not.1 h5_4), ← u2] at e; obtain ⟨e1, e2, e3, e4⟩ := e; rcases e4 with ⟨⟨f1, f2⟩, f3⟩ | f; (first | omega | (rw [h9_1] at f1; cases f1)); exact h10_16 f)]; exact fiO rfl rfl (fun hz2 id2 b2 hb2 => by (have hb2 : h id2 = some b2 := hb2; have h1 : id2 < n := Nat.lt_of_not_le (fun q => by rw [hz2 id2 q] at hb2; cases hb2); have h9 := hI.old id2 b2 h1 hb2; dsimp only at h9; first | exact h9 | ((simp (disch := (first | omega | assumption)) only [↓appC, ↓updN, ↓updS, ↓app0]); exact h9))) (by omega)
        ·refine O4 fun GG hGG => ?_
         refine C0 ?_
         first
         | exact C6 (ih ⟨i + 1, m + 1, k, GG⟩ ⟨by dsimp only; omega, by dsimp only; omega, by dsimp only; rw [L3 h5_4]; exact u2, C8 u3 (fun q => absurd q h5_4), fun j bb hj hb => by dsimp only; rw [hGG]; have h9 := hI.old j bb hj hb; dsimp only at h9; (simp (disch := (first | omega | assumption)) only [↓appC, ↓updN, ↓updS, ↓app0]); exact h9, by dsimp only; rw [hGG]; have h9 := hI.cb; dsimp only at h9; (simp (disch := (first | omega | assumption)) only [↓appC, ↓updN, ↓updS, ↓app0]); exact h9⟩ (by dsimp only; omega)) (by (repeat first | exact LE.nil _ | refine LE.unk _ _ ?_ | refine LE.eq _ _ _ rfl ?_)) (LessH.refl _) (Nat.le_refl _)
         | exact C6 (ih ⟨i + 1, m + 1, k + 1, GG⟩ ⟨by dsimp only; omega, by dsimp only; omega, by dsimp only; rw [F6 (Classical.not_not.1 h5_4)]; omega, C8 u3 (fun q => by rw [F6 (Classical.not_not.1 h5_4)]; exact ⟨by omega, by rw [← u2]; exact h7_10, h7_20, by first | exact .inr h10_16 | exact .inl ⟨⟨h9_1, by omega⟩, by omega⟩⟩), fun j bb hj hb => by dsimp only; rw [hGG]; have h9 := hI.old j bb hj hb; dsimp only at h9; (simp (disch := (first | omega | assumption)) only [↓appC, ↓updN, ↓updS, ↓app0]); exact h9, by dsimp only; rw [hGG]; have h9 := hI.cb; dsimp only at h9; (simp (disch := (first | omega | assumption)) only [↓appC, ↓updN, ↓updS, ↓app0]); exact h9⟩ (by dsimp only; omega)) (by (repeat first | exact LE.nil _ | refine LE.unk _ _ ?_ | refine LE.eq _ _ _ rfl ?_)) (LessH.refl _) (Nat.le_refl _)
       ·refine A1 ?_ (by exact Q5) (by exact Q2)
        refine A1 ?_ (by exact Q5) (by exact Q2)
        refine A1 ?_ (by exact Q5) (by exact Q2)
        refine B0 (L4 _ _ _) rfl j2 ?_ ?_ <;> intro h10_16
        ·refine O4 fun GG hGG => ?_
         refine C0 ?_
         first
         | exact C6 (ih ⟨i + 1, m + 1, k, GG⟩ ⟨by dsimp only; omega, by dsimp only; omega, by dsimp only; rw [L3 h5_4]; exact u2, C8 u3 (fun q => absurd q h5_4), fun j bb hj hb => by dsimp only; rw [hGG]; have h9 := hI.old j bb hj hb; dsimp only at h9; (simp (disch := (first | omega | assumption)) only [↓appC, ↓updN, ↓updS, ↓app0]); exact h9, by dsimp only; rw [hGG]; have h9 := hI.cb; dsimp only at h9; (simp (disch := (first | omega | assumption)) only [↓appC, ↓updN, ↓updS, ↓app0]); exact h9⟩ (by dsimp only; omega)) (by (repeat first | exact LE.nil _ | refine LE.unk _ _ ?_ | refine LE.eq _ _ _ rfl ?_)) (LessH.refl _) (Nat.le_refl _)
         | exact C6 (ih ⟨i + 1, m + 1, k + 1, GG⟩ ⟨by dsimp only; omega, by dsimp only; omega, by dsimp only; rw [F6 (Classical.not_not.1 h5_4)]; omega, C8 u3 (fun q => by rw [F6 (Classical.not_not.1 h5_4)]; exact ⟨by omega, by rw [← u2]; exact h7_10, h7_20, by first | exact .inr h10_16 | exact .inl ⟨⟨h9_1, by omega⟩, by omega⟩⟩), fun j bb hj hb => by dsimp only; rw [hGG]; have h9 := hI.old j bb hj hb; dsimp only at h9; (simp (disch := (first | omega | assumption)) only [↓appC, ↓updN, ↓updS, ↓app0]); exact h9, by dsimp only; rw [hGG]; have h9 := hI.cb; dsimp only at h9; (simp (disch := (first | omega | assumption)) only [↓appC, ↓updN, ↓updS, ↓app0]); exact h9⟩ (by dsimp only; omega)) (by (repeat first | exact LE.nil _ | refine LE.unk _ _ ?_ | refine LE.eq _ _ _ rfl ?_)) (LessH.refl _) (Nat.le_refl _)
        ·rw [decide_eq_false (show ¬ acOK W c from fun q => by have e := q.1 i (by omega) (Classical.not_not.1 h5_4); rw [F6 (Classical.not_not.1 h5_4), ← u2] at e; obtain ⟨e1, e2, e3, e4⟩ := e; rcases e4 with ⟨⟨f1, f2⟩, f3⟩ | f; (first | omega | (rw [h9_1] at f1; cases f1)); exact h10_16 f)]; exact fiO rfl rfl (fun hz2 id2 b2 hb2 => by (have hb2 : h id2 = some b2 := hb2; have h1 : id2 < n := Nat.lt_of_not_le (fun q => by rw [hz2 id2 q] at hb2; cases hb2); have h9 := hI.old id2 b2 h1 hb2; dsimp only at h9; first | exact h9 | ((simp (disch := (first | omega | assumption)) only [↓appC, ↓updN, ↓updS, ↓app0]); exact h9))) (by omega)
      ·refine A1 ?_ (by exact Q5) (by exact Q2)
       refine A1 ?_ (by exact Q5) (by exact Q2)
       refine A1 ?_ (by exact Q5) (by exact Q2)
       refine B0 (L4 _ _ _) rfl j2 ?_ ?_ <;> intro h10_16
       ·refine O4 fun GG hGG => ?_
        refine C0 ?_
        first
        | exact C6 (ih ⟨i + 1, m + 1, k, GG⟩ ⟨by dsimp only; omega, by dsimp only; omega, by dsimp only; rw [L3 h5_4]; exact u2, C8 u3 (fun q => absurd q h5_4), fun j bb hj hb => by dsimp only; rw [hGG]; have h9 := hI.old j bb hj hb; dsimp only at h9; (simp (disch := (first | omega | assumption)) only [↓appC, ↓updN, ↓updS, ↓app0]); exact h9, by dsimp only; rw [hGG]; have h9 := hI.cb; dsimp only at h9; (simp (disch := (first | omega | assumption)) only [↓appC, ↓updN, ↓updS, ↓app0]); exact h9⟩ (by dsimp only; omega)) (by (repeat first | exact LE.nil _ | refine LE.unk _ _ ?_ | refine LE.eq _ _ _ rfl ?_)) (LessH.refl _) (Nat.le_refl _)
        | exact C6 (ih ⟨i + 1, m + 1, k + 1, GG⟩ ⟨by dsimp only; omega, by dsimp only; omega, by dsimp only; rw [F6 (Classical.not_not.1 h5_4)]; omega, C8 u3 (fun q => by rw [F6 (Classical.not_not.1 h5_4)]; exact ⟨by omega, by rw [← u2]; exact h7_10, h7_20, by first | exact .inr h10_16 | exact .inl ⟨⟨h9_1, by omega⟩, by omega⟩⟩), fun j bb hj hb => by dsimp only; rw [hGG]; have h9 := hI.old j bb hj hb; dsimp only at h9; (simp (disch := (first | omega | assumption)) only [↓appC, ↓updN, ↓updS, ↓app0]); exact h9, by dsimp only; rw [hGG]; have h9 := hI.cb; dsimp only at h9; (simp (disch := (first | omega | assumption)) only [↓appC, ↓updN, ↓updS, ↓app0]); exact h9⟩ (by dsimp only; omega)) (by (repeat first | exact LE.nil _ | refine LE.unk _ _ ?_ | refine LE.eq _ _ _ rfl ?_)) (LessH.refl _) (Nat.le_refl _)
       ·rw [decide_eq_false (show ¬ acOK W c from fun q => by have e := q.1 i (by omega) (Classical.not_not.1 h5_4); rw [F6 (Classical.not_not.1 h5_4), ← u2] at e; obtain ⟨e1, e2, e3, e4⟩ := e; rcases e4 with ⟨⟨f1, f2⟩, f3⟩ | f; (first | omega | (rw [h9_1] at f1; cases f1)); exact h10_16 f)]; exact fiO rfl rfl (fun hz2 id2 b2 hb2 => by (have hb2 : h id2 = some b2 := hb2; have h1 : id2 < n := Nat.lt_of_not_le (fun q => by rw [hz2 id2 q] at hb2; cases hb2); have h9 := hI.old id2 b2 h1 hb2; dsimp only at h9; first | exact h9 | ((simp (disch := (first | omega | assumption)) only [↓appC, ↓updN, ↓updS, ↓app0]); exact h9))) (by omega)
     ·rw [decide_eq_false (show ¬ acOK W c from fun q => by have e := q.1 i (by omega) (Classical.not_not.1 h5_4); rw [F6 (Classical.not_not.1 h5_4), ← u2] at e; obtain ⟨e1, e2, e3, e4⟩ := e; first | omega | exact h7_10 e2 | exact h7_20 e3)]; exact fiO rfl rfl (fun hz2 id2 b2 hb2 => by (have hb2 : h id2 = some b2 := hb2; have h1 : id2 < n := Nat.lt_of_not_le (fun q => by rw [hz2 id2 q] at hb2; cases hb2); have h9 := hI.old id2 b2 h1 hb2; dsimp only at h9; first | exact h9 | ((simp (disch := (first | omega | assumption)) only [↓appC, ↓updN, ↓updS, ↓app0]); exact h9))) (by omega)
    ·rw [decide_eq_false (show ¬ acOK W c from fun q => by have e := q.1 i (by omega) (Classical.not_not.1 h5_4); rw [F6 (Classical.not_not.1 h5_4), ← u2] at e; obtain ⟨e1, e2, e3, e4⟩ := e; first | omega | exact h7_10 e2 | exact h7_20 e3)]; exact fiO rfl rfl (fun hz2 id2 b2 hb2 => by (have hb2 : h id2 = some b2 := hb2; have h1 : id2 < n := Nat.lt_of_not_le (fun q => by rw [hz2 id2 q] at hb2; cases hb2); have h9 := hI.old id2 b2 h1 hb2; dsimp only at h9; first | exact h9 | ((simp (disch := (first | omega | assumption)) only [↓appC, ↓updN, ↓updS, ↓app0]); exact h9))) (by omega)
 ·refine A1 ?_ (by exact Q5) (by exact Q2)
  refine br ?_ ?_ <;> intro h13_3
  ·first | (rw [decide_eq_true (show acOK W c from ⟨fun j hj => u3 j (by omega), by rw [show W.cr.length = i by omega, ← u2]; exact h13_3⟩)]; exact fiO rfl rfl (fun hz2 id2 b2 hb2 => by (have hb2 : h id2 = some b2 := hb2; have h1 : id2 < n := Nat.lt_of_not_le (fun q => by rw [hz2 id2 q] at hb2; cases hb2); have h9 := hI.old id2 b2 h1 hb2; dsimp only at h9; first | exact h9 | ((simp (disch := (first | omega | assumption)) only [↓appC, ↓updN, ↓updS, ↓app0]); exact h9))) (by omega)) | (rw [decide_eq_false (show ¬ acOK W c from fun q => by have e := q.2; rw [show W.cr.length = i by omega, ← u2] at e; exact h13_3 e)]; exact fiO rfl rfl (fun hz2 id2 b2 hb2 => by (have hb2 : h id2 = some b2 := hb2; have h1 : id2 < n := Nat.lt_of_not_le (fun q => by rw [hz2 id2 q] at hb2; cases hb2); have h9 := hI.old id2 b2 h1 hb2; dsimp only at h9; first | exact h9 | ((simp (disch := (first | omega | assumption)) only [↓appC, ↓updN, ↓updS, ↓app0]); exact h9))) (by omega))
  ·first | (rw [decide_eq_true (show acOK W c from ⟨fun j hj => u3 j (by omega), by rw [show W.cr.length = i by omega, ← u2]; exact h13_3⟩)]; exact fiO rfl rfl (fun hz2 id2 b2 hb2 => by (have hb2 : h id2 = some b2 := hb2; have h1 : id2 < n := Nat.lt_of_not_le (fun q => by rw [hz2 id2 q] at hb2; cases hb2); have h9 := hI.old id2 b2 h1 hb2; dsimp only at h9; first | exact h9 | ((simp (disch := (first | omega | assumption)) only [↓appC, ↓updN, ↓updS, ↓app0]); exact h9))) (by omega)) | (rw [decide_eq_false (show ¬ acOK W c from fun q => by have e := q.2; rw [show W.cr.length = i by omega, ← u2] at e; exact h13_3 e)]; exact fiO rfl rfl (fun hz2 id2 b2 hb2 => by (have hb2 : h id2 = some b2 := hb2; have h1 : id2 < n := Nat.lt_of_not_le (fun q => by rw [hz2 id2 q] at hb2; cases hb2); have h9 := hI.old id2 b2 h1 hb2; dsimp only at h9; first | exact h9 | ((simp (disch := (first | omega | assumption)) only [↓appC, ↓updN, ↓updS, ↓app0]); exact h9))) (by omega))
theorem o208 (c : Cl) (x : Int) {id : Nat} {h : Heap} {n : Nat} (hid : id < n) (hh : h id = some ⟨[[.int .i64 x]], 1, 3⟩) : V.Open En 208 [.agg [.int .i64 c.id, .int .i64 c.st, .bool c.bz, .int .i64 c.rq.cl, .int .i64 c.rq.st, .int .i64 c.rq.kd, .int .i64 c.rq.le, .str c.rq.nm, .sl false false (c.rps.map Rp.T), .sl false false (c.acc.map An.T)], .ptr id 0 0] h n (.bool (decide ((fun c : Cl => c.id = x) c))) [] (n + 1) := by
 refine V.Open.of_ev (st := []) Tryz.func208 rfl kb ?_
 refine A1 ?_ (by exact Q5) (by exact Q2)
 refine A1 ?_ (by exact Q5) (by exact Q2)
 refine br ?_ ?_ <;> intro h1_3
 ·first
  | (rw [decide_eq_true (show (fun c : Cl => c.id = x) c from h1_3)]; exact fiO rfl rfl (leWr (fun j hj => absurd hj List.not_mem_nil) (fun j hj hn => by simp (disch := omega) only [↓app0, ↓appC, ↓updS, ↓updN])) (Nat.le_refl _))
  | (rw [decide_eq_false (show ¬ (fun c : Cl => c.id = x) c from h1_3)]; exact fiO rfl rfl (leWr (fun j hj => absurd hj List.not_mem_nil) (fun j hj hn => by simp (disch := omega) only [↓app0, ↓appC, ↓updS, ↓updN])) (Nat.le_refl _))
 ·first
  | (rw [decide_eq_true (show (fun c : Cl => c.id = x) c from h1_3)]; exact fiO rfl rfl (leWr (fun j hj => absurd hj List.not_mem_nil) (fun j hj hn => by simp (disch := omega) only [↓app0, ↓appC, ↓updS, ↓updN])) (Nat.le_refl _))
  | (rw [decide_eq_false (show ¬ (fun c : Cl => c.id = x) c from h1_3)]; exact fiO rfl rfl (leWr (fun j hj => absurd hj List.not_mem_nil) (fun j hj hn => by simp (disch := omega) only [↓app0, ↓appC, ↓updS, ↓updN])) (Nat.le_refl _))
theorem o207 (fr b : Bool) (L : List Cl) (x : Int) {id : Nat} {h : Heap} {n : Nat} (hid : id < n) (hh : h id = some ⟨[[.int .i64 x]], 1, 3⟩) (hL : L.length ≤ 1048576) : V.Open En 207 [.sl false b (L.map ClT), .clo 208 [.ptr id 0 0]] h n (.int .i64 (pix (fun c : Cl => c.id = x) L 0)) [] (n + 1 * L.length) := by
 have hl : (L.map ClT).length = L.length := List.length_map ..
 refine V.Open.of_ev (st := []) Tryz.func207 rfl kb ?_
 refine B3 (fun (a : Nat × Nat) => [.sl false b (L.map ClT), .clo 208 [.ptr id 0 0], .unk, .unk, .unk, .unk, .unk, .int .i64 (L.map ClT).length, .int .i64 a.1]) (fun (a : Nat × Nat) => h) (fun (a : Nat × Nat) => a.2) (fun (a : Nat × Nat) => a.1 ≤ L.length ∧ pix (fun c : Cl => c.id = x) (L.drop a.1) a.1 = pix (fun c : Cl => c.id = x) L 0 ∧ n + 1 * a.1 = a.2) (fun (a : Nat × Nat) => L.length - a.1) (0, n) ?_ ?_ ?_ ?_ ?_
 ·exact ⟨Nat.zero_le _, rfl, by omega⟩
 ·(repeat first | exact LE.nil _ | refine LE.unk _ _ ?_ | refine LE.eq _ _ _ rfl ?_)
 ·exact LessH.refl _
 ·exact Nat.le_refl _
 intro ⟨i, m⟩ hI ih
 obtain ⟨q0, q1, q2⟩ := hI
 dsimp only at q0 q1 q2 ⊢
 refine A6 (st := []) ?_
 refine br ?_ ?_ <;> intro h2_0
 ·(refine B9 (C5 (by first | rfl | assumption | (exact B2 ClT Cl0 (k := i) (by omega))) rfl ?_))
  refine N2 (o208 (L.getD i Cl0) x (n := m) (by omega) hh) rfl j2 ?_ ?_
  all_goals intro h4_5
  ·rw [← q1, pix_y (d := Cl0) (L := L) (i := i) (by omega) (of_decide_eq_true h4_5)]; exact fiO rfl rfl (fun _ _ _ e => e) (by omega)
  ·refine C0 ?_
   have e1 := (pix_n (P := fun c : Cl => c.id = x) (d := Cl0) (L := L) (i := i) (by omega) (of_decide_eq_false h4_5)).symm.trans q1
   exact C6 (ih (i + 1, m + 1) ⟨by dsimp only; omega, e1, by dsimp only; omega⟩ (by dsimp only; omega)) (by (repeat first | exact LE.nil _ | refine LE.unk _ _ ?_ | refine LE.eq _ _ _ rfl ?_)) (LessH.refl _) (Nat.le_refl _)
 ·rw [← q1, X3 (L := L) (i := i) (by omega)]; exact fiO rfl rfl (fun _ _ _ e => e) (by omega)
theorem o136 (W : Wd) (h3 : W.cs.length = 3) (x : Int) {id : Nat} {h : Heap} {n : Nat} (hid : id < n) (hh : h id = some ⟨[[.int .i64 W.gp.nd, .sl false false (W.gp.fa.map iT), .sl false false (W.gp.rs.map Rep.T), .sl false false (W.gp.wi.map Pc.T), .sl false false (W.gp.se.map Msg.T), .sl false false (W.cs.map ClT), .sl false false (W.cr.map Cr.T), .int .i64 W.tm]], 8, 92⟩) : V.Open En 136 [.ptr id 0 0, .int .i64 x] h n (.int .i64 (pix (fun c : Cl => c.id = x) W.cs 0)) [] (n + 4) := by
 refine V.Open.of_ev (st := []) Tryz.func136 rfl kb ?_
 refine A1 ?_ (by exact Q5) (by exact Q2)
 refine L6 (o207 false false W.cs x (id := n) ?_ ?_ (by omega)) rfl rfl rfl ?_
 ·(first | omega | assumption | exact Q5)
 ·(first | omega | assumption | exact Q5)
 exact fiO rfl rfl (leWr (fun j hj => absurd hj List.not_mem_nil) (fun j hj hn => by simp (disch := omega) only [↓app0, ↓appC, ↓updS, ↓updN])) (by omega)
theorem o135 (W : Wd) (h3 : W.cs.length = 3) (r : Cr) {id : Nat} {h : Heap} {n : Nat} (hid : id < n) (hh : h id = some ⟨[[.int .i64 W.gp.nd, .sl false false (W.gp.fa.map iT), .sl false false (W.gp.rs.map Rep.T), .sl false false (W.gp.wi.map Pc.T), .sl false false (W.gp.se.map Msg.T), .sl false false (W.cs.map ClT), .sl false false (W.cr.map Cr.T), .int .i64 W.tm]], 8, 92⟩) : V.Open En 135 [.agg ((Cr.T r).map (T.toV false)), .ptr id 0 0] h n (.bool (decide (¬ hasC W r.cl))) [] (n + 5) := by
 refine V.Open.of_ev (st := []) Tryz.func135 rfl kb ?_
 refine A1 ?_ (by exact Q5) (by exact Q2)
 refine L6 (o136 W h3 r.cl (id := id) ?_ ?_) rfl rfl rfl ?_
 ·(first | omega | assumption | exact Q5)
 ·(first | omega | assumption | exact Q5)
 refine br ?_ ?_ <;> intro h1_3
 ·first
  | (rw [decide_eq_true (show ¬ hasC W r.cl from fun q => by have := (F3 (P := fun c : Cl => c.id = r.cl) W.cs 0).2 q; omega)]; exact fiO rfl rfl (leWr (fun j hj => absurd hj List.not_mem_nil) (fun j hj hn => by simp (disch := omega) only [↓app0, ↓appC, ↓updS, ↓updN])) (Nat.le_refl _))
  | (rw [decide_eq_false (show ¬ ¬ hasC W r.cl from fun q => q ((F3 (P := fun c : Cl => c.id = r.cl) W.cs 0).1 (by omega)))]; exact fiO rfl rfl (leWr (fun j hj => absurd hj List.not_mem_nil) (fun j hj hn => by simp (disch := omega) only [↓app0, ↓appC, ↓updS, ↓updN])) (Nat.le_refl _))
 ·first
  | (rw [decide_eq_true (show ¬ hasC W r.cl from fun q => by have := (F3 (P := fun c : Cl => c.id = r.cl) W.cs 0).2 q; omega)]; exact fiO rfl rfl (leWr (fun j hj => absurd hj List.not_mem_nil) (fun j hj hn => by simp (disch := omega) only [↓app0, ↓appC, ↓updS, ↓updN])) (Nat.le_refl _))
  | (rw [decide_eq_false (show ¬ ¬ hasC W r.cl from fun q => q ((F3 (P := fun c : Cl => c.id = r.cl) W.cs 0).1 (by omega)))]; exact fiO rfl rfl (leWr (fun j hj => absurd hj List.not_mem_nil) (fun j hj hn => by simp (disch := omega) only [↓app0, ↓appC, ↓updS, ↓updN])) (Nat.le_refl _))
theorem o206 (fr b : Bool) (L : List Cr) (W : Wd) (h3 : W.cs.length = 3) {id : Nat} {h : Heap} {n : Nat} (hid : id < n) (hh : h id = some ⟨[[.int .i64 W.gp.nd, .sl false false (W.gp.fa.map iT), .sl false false (W.gp.rs.map Rep.T), .sl false false (W.gp.wi.map Pc.T), .sl false false (W.gp.se.map Msg.T), .sl false false (W.cs.map ClT), .sl false false (W.cr.map Cr.T), .int .i64 W.tm]], 8, 92⟩) (hL : L.length ≤ 1048576) : V.Open En 206 [.sl fr b (L.map Cr.T), .clo 135 [.ptr id 0 0]] h n (.int .i64 (pix (fun r : Cr => ¬ hasC W r.cl) L 0)) [] (n + 5 * L.length) := by
 have hl : (L.map Cr.T).length = L.length := List.length_map ..
 refine V.Open.of_ev (st := []) Tryz.func206 rfl kb ?_
 refine B3 (fun (a : Nat × Nat) => [.sl fr b (L.map Cr.T), .clo 135 [.ptr id 0 0], .unk, .unk, .unk, .unk, .unk, .int .i64 (L.map Cr.T).length, .int .i64 a.1]) (fun (a : Nat × Nat) => h) (fun (a : Nat × Nat) => a.2) (fun (a : Nat × Nat) => a.1 ≤ L.length ∧ pix (fun r : Cr => ¬ hasC W r.cl) (L.drop a.1) a.1 = pix (fun r : Cr => ¬ hasC W r.cl) L 0 ∧ n + 5 * a.1 = a.2) (fun (a : Nat × Nat) => L.length - a.1) (0, n) ?_ ?_ ?_ ?_ ?_
 ·exact ⟨Nat.zero_le _, rfl, by omega⟩
 ·(repeat first | exact LE.nil _ | refine LE.unk _ _ ?_ | refine LE.eq _ _ _ rfl ?_)
 ·exact LessH.refl _
 ·exact Nat.le_refl _
 intro ⟨i, m⟩ hI ih
 obtain ⟨q0, q1, q2⟩ := hI
 dsimp only at q0 q1 q2 ⊢
 refine A6 (st := []) ?_
 refine br ?_ ?_ <;> intro h2_0
 ·(refine B9 (C5 (by first | rfl | assumption | (exact B2 Cr.T Cr0 (k := i) (by omega))) rfl ?_))
  refine N2 (o135 W h3 (L.getD i Cr0) (n := m) (by omega) hh) rfl j2 ?_ ?_
  all_goals intro h4_5
  ·rw [← q1, pix_y (d := Cr0) (L := L) (i := i) (by omega) (of_decide_eq_true h4_5)]; exact fiO rfl rfl (fun _ _ _ e => e) (by omega)
  ·refine C0 ?_
   have e1 := (pix_n (P := fun r : Cr => ¬ hasC W r.cl) (d := Cr0) (L := L) (i := i) (by omega) (of_decide_eq_false h4_5)).symm.trans q1
   exact C6 (ih (i + 1, m + 5) ⟨by dsimp only; omega, e1, by dsimp only; omega⟩ (by dsimp only; omega)) (by (repeat first | exact LE.nil _ | refine LE.unk _ _ ?_ | refine LE.eq _ _ _ rfl ?_)) (LessH.refl _) (Nat.le_refl _)
 ·rw [← q1, X3 (L := L) (i := i) (by omega)]; exact fiO rfl rfl (fun _ _ _ e => e) (by omega)
theorem o134 (fr b : Bool) (L : List Cr) (W : Wd) (h3 : W.cs.length = 3) {id : Nat} {h : Heap} {n : Nat} (hid : id < n) (hh : h id = some ⟨[[.int .i64 W.gp.nd, .sl false false (W.gp.fa.map iT), .sl false false (W.gp.rs.map Rep.T), .sl false false (W.gp.wi.map Pc.T), .sl false false (W.gp.se.map Msg.T), .sl false false (W.cs.map ClT), .sl false false (W.cr.map Cr.T), .int .i64 W.tm]], 8, 92⟩) (hL : L.length ≤ 1048576) : V.Open En 134 [.sl fr b (L.map Cr.T), .clo 135 [.ptr id 0 0]] h n (.bool (decide (anyP (fun r : Cr => ¬ hasC W r.cl) L))) [] (n + 5 * L.length) := by
 refine V.Open.of_ev (st := []) Tryz.func134 rfl kb ?_
 refine L6 (o206 fr b L W h3 hid hh hL) rfl rfl rfl ?_
 refine br ?_ ?_ <;> intro h1_3
 ·first
  | (rw [decide_eq_true (show anyP (fun r : Cr => ¬ hasC W r.cl) L from (F3 (P := fun r : Cr => ¬ hasC W r.cl) L 0).1 (by omega))]; exact fiO rfl rfl (fun _ _ _ e => e) (Nat.le_refl _))
  | (rw [decide_eq_false (show ¬ anyP (fun r : Cr => ¬ hasC W r.cl) L from fun q => by have := (F3 (P := fun r : Cr => ¬ hasC W r.cl) L 0).2 q; omega)]; exact fiO rfl rfl (fun _ _ _ e => e) (Nat.le_refl _))
 ·first
  | (rw [decide_eq_true (show anyP (fun r : Cr => ¬ hasC W r.cl) L from (F3 (P := fun r : Cr => ¬ hasC W r.cl) L 0).1 (by omega))]; exact fiO rfl rfl (fun _ _ _ e => e) (Nat.le_refl _))
  | (rw [decide_eq_false (show ¬ anyP (fun r : Cr => ¬ hasC W r.cl) L from fun q => by have := (F3 (P := fun r : Cr => ¬ hasC W r.cl) L 0).2 q; omega)]; exact fiO rfl rfl (fun _ _ _ e => e) (Nat.le_refl _))
theorem s54w (W : Wd) (hb : TBs 1048576 W.T) : Pure En 54 [.agg W.T] [.one (.bool (decide W.OK))] := by
 obtain ⟨hG, hC, hK⟩ := Wd.tb.1 hb
 obtain ⟨hC1, hC2⟩ := (B1 ClT Cl0).1 hC
 obtain ⟨hcr, _⟩ := (B1 Cr.T Cr0).1 hK
 have hA : ∀ i, i < W.cs.length → (W.cs.getD i Cl0).acc.length ≤ 1048576 := fun i hi => ((B1 An.T An0).1 (Cl.tb.1 (hC2 i hi)).2.2).1
 have hl1 : (W.cs.map ClT).length = W.cs.length := List.length_map ..
 have hl2 : (W.cr.map Cr.T).length = W.cr.length := List.length_map ..
 refine Pure.of_ev (st := []) Tryz.func54 rfl kb ?_
 (apply C3 (vs := [.int _ _, _, _, _, _]) j2; exact Q0; exact Q2; rfl; exact kb; rfl)
 refine B0 (s34 W.gp hG) rfl j2 ?_ ?_ <;> intro h1_2
 ·refine A1 ?_ (by exact Q0) (by exact Q2)
  refine br ?_ ?_ <;> intro h1_8
  ·refine A7 rfl ?_; rintro ⟨⟨q1, q2, q3, q4⟩, _⟩; first | exact h1_2 q1 | exact h1_19 q4 | omega
  ·refine A1 ?_ (by exact Q0) (by exact Q2)
   refine br ?_ ?_ <;> intro h1_14
   ·refine A7 rfl ?_; rintro ⟨⟨q1, q2, q3, q4⟩, _⟩; first | exact h1_2 q1 | exact h1_19 q4 | omega
   ·refine A1 ?_ (by exact Q0) (by exact Q2)
    refine B0 (L4 _ _ _) rfl j2 ?_ ?_ <;> intro h1_19
    ·refine A1 ?_ (by exact Q0) (by exact Q2)
     refine B3 (fun (a : Nat × Nat) => [.unk, .ptr 0 0 0, .unk, .unk, .unk, .unk, .unk, .unk, .unk, .unk, .unk, .unk, .unk, .unk, .unk, .unk, .unk, .unk, .unk, .unk, .unk, .unk, .unk, .unk, .unk, .unk, .unk, .unk, .sl false false (W.cs.map ClT), .int .i64 ((W.cs.map ClT).length : Int), .int .i64 a.1]) (fun (a : Nat × Nat) => hp [(0, ⟨[[.int .i64 W.gp.nd, .sl false false (W.gp.fa.map iT), .sl false false (W.gp.rs.map Rep.T), .sl false false (W.gp.wi.map Pc.T), .sl false false (W.gp.se.map Msg.T), .sl false false (W.cs.map ClT), .sl false false (W.cr.map Cr.T), .int .i64 W.tm]], 8, 92⟩)]) (fun (a : Nat × Nat) => a.2) (fun (a : Nat × Nat) => a.1 ≤ W.cs.length ∧ 1 ≤ a.2 ∧ ∀ j, j < a.1 → (W.cs.getD j Cl0).id = 10 + (j : Int) ∧ (W.cs.getD j Cl0).OK W.gp.nd ∧ acOK W (W.cs.getD j Cl0)) (fun (a : Nat × Nat) => W.cs.length - a.1) (0, 1) ?_ ?_ ?_ ?_ ?_
     ·exact ⟨Nat.zero_le _, Nat.le_refl _, E6⟩
     ·(repeat first | exact LE.nil _ | refine LE.unk _ _ ?_ | refine LE.eq _ _ _ rfl ?_)
     ·(repeat first | exact A5 | (refine A4 ?_ ?_; exact H8))
     ·exact Nat.le_refl _
     intro ⟨i, m⟩ hI ih
     obtain ⟨u0, u1, u2⟩ := hI
     dsimp only at u0 u1 u2 ⊢
     have h3 : W.cs.length = 3 := by omega
     refine A6 (st := []) ?_
     refine br ?_ ?_ <;> intro h4_0
     ·(refine B9 (C5 (by first | rfl | assumption | (exact B2 ClT Cl0 (k := i) (by omega))) rfl ?_))
      (apply est (u := .agg [.int _ _, .int _ _, .bool _, .int _ _, .int _ _, .int _ _, .int _ _, .str _, _, _]) j3; exact Q0; exact Q2; exact j4; exact kb; rfl)
      refine A1 ?_ (by exact Q0) (by exact Q2)
      refine C0 ?_
      refine br ?_ ?_ <;> intro h6_4
      ·refine A7 rfl ?_; rintro ⟨_, q2, _⟩; obtain ⟨e1, e2, e3⟩ := q2 i (by omega); first | omega | exact h6_10 e2 | exact of_decide_eq_false h6_15 e3
      ·refine A1 ?_ (by exact Q0) (by exact Q2)
       (apply C3 (vs := [.int _ _, .int _ _, .bool _, .int _ _, .int _ _, .int _ _, .int _ _, .str _, _, _]) j2; exact Q0; exact Q2; rfl; exact kb; rfl)
       refine B0 (q30 W.gp.nd (W.cs.getD i Cl0) false false (hA i (by omega))) rfl j2 ?_ ?_ <;> intro h6_10
       ·(apply C3 (vs := [.int _ _, .int _ _, .bool _, .int _ _, .int _ _, .int _ _, .int _ _, .str _, _, _]) j2; exact Q0; exact Q2; rfl; exact kb; rfl)
        refine N2 (o133 W (W.cs.getD i Cl0) hcr (id := 0) ?_ ?_) rfl j2 ?_ ?_
        ·exact G4
        ·exact G4
        all_goals intro h6_15
        ·refine C0 ?_
         exact C6 (ih (i + 1, m + 1 + 1 + W.cr.length) ⟨by dsimp only; omega, by dsimp only; omega, C8 u2 ⟨by omega, h6_10, of_decide_eq_true h6_15⟩⟩ (by dsimp only; omega)) (by (repeat first | exact LE.nil _ | refine LE.unk _ _ ?_ | refine LE.eq _ _ _ rfl ?_)) (by (repeat first | exact A5 | (refine A4 ?_ ?_; exact H8))) (by omega)
        ·refine A7 rfl ?_; rintro ⟨_, q2, _⟩; obtain ⟨e1, e2, e3⟩ := q2 i (by omega); first | omega | exact h6_10 e2 | exact of_decide_eq_false h6_15 e3
       ·refine A7 rfl ?_; rintro ⟨_, q2, _⟩; obtain ⟨e1, e2, e3⟩ := q2 i (by omega); first | omega | exact h6_10 e2 | exact of_decide_eq_false h6_15 e3
     ·refine A1 ?_ (by exact Q0) (by exact Q2)
      refine N2 (o134 false false W.cr W h3 (id := 0) ?_ ?_ (by omega)) rfl j2 ?_ ?_
      ·exact G4
      ·exact G4
      all_goals intro h9_3
      ·first
       | (refine A7 rfl ?_; rintro ⟨_, _, q4⟩; obtain ⟨x, hx, hn⟩ := of_decide_eq_true h9_3; obtain ⟨k, hk, rfl⟩ := List.getElem_of_mem hx; have := q4 k hk; rw [show W.cr.getD k Cr0 = W.cr[k] by simp [hk]] at this; exact hn this)
       | (refine B7 rfl ?_; refine ⟨⟨h1_2, by omega, by omega, h1_19⟩, fun j hj => u2 j (by omega), fun j hj => ?_⟩; refine Classical.byContradiction fun q => of_decide_eq_false h9_3 ⟨W.cr.getD j Cr0, ?_, q⟩; rw [show W.cr.getD j Cr0 = W.cr[j] by simp [hj]]; exact List.getElem_mem hj)
      ·first
       | (refine A7 rfl ?_; rintro ⟨_, _, q4⟩; obtain ⟨x, hx, hn⟩ := of_decide_eq_true h9_3; obtain ⟨k, hk, rfl⟩ := List.getElem_of_mem hx; have := q4 k hk; rw [show W.cr.getD k Cr0 = W.cr[k] by simp [hk]] at this; exact hn this)
       | (refine B7 rfl ?_; refine ⟨⟨h1_2, by omega, by omega, h1_19⟩, fun j hj => u2 j (by omega), fun j hj => ?_⟩; refine Classical.byContradiction fun q => of_decide_eq_false h9_3 ⟨W.cr.getD j Cr0, ?_, q⟩; rw [show W.cr.getD j Cr0 = W.cr[j] by simp [hj]]; exact List.getElem_mem hj)
    ·refine A7 rfl ?_; rintro ⟨⟨q1, q2, q3, q4⟩, _⟩; first | exact h1_2 q1 | exact h1_19 q4 | omega
 ·refine A7 rfl ?_; rintro ⟨⟨q1, q2, q3, q4⟩, _⟩; first | exact h1_2 q1 | exact h1_19 q4 | omega
open Go.V
set_option linter.unusedVariables false
set_option linter.unusedSimpArgs false
set_option maxRecDepth 20000
set_option maxHeartbeats 4000000
open Go
inductive Tin : T → Prop
 | bool (b : Bool) : Tin (.bool b)
 | int (k : IntKind) (n : Int) (h : (Lit.int k n).wf = true) : Tin (.int k n)
 | str (s : ByteArray) : Tin (.str s)
 | sl (nn : Bool) (es : List (List T)) (hs : ∀ e ∈ es, ∀ x ∈ e, Tin x) : Tin (.sl nn es)
def Tins (e : List T) : Prop := ∀ x ∈ e, Tin x
theorem Tins_cons {x : T} {e : List T} : Tins (x :: e) ↔ Tin x ∧ Tins e := by unfold Tins; simp
mutual
theorem sh_Tin : ∀ {x : T} {s : Sh}, HasSh x s → Tin x
 | _, _, .bool b => .bool b
 | _, _, .int k n h => .int k n h
 | _, _, .str s h => .str s
 | _, _, .sl es l h hs => .sl false es fun e he => sh_Tins (hs e he)
theorem sh_Tins : ∀ {xs : List T} {l : List Sh}, Shs xs l → Tins xs
 | _, _, .nil => fun x h => by cases h
 | _, _, .cons x s xs l h hs => Tins_cons.2 ⟨sh_Tin h, sh_Tins hs⟩
end
theorem Tin_i64 {n : Int} (h : Tin (.int .i64 n)) : -9223372036854775808 ≤ n ∧ n ≤ 9223372036854775807 := by
 cases h with
 | int _ _ h =>
  simp only [Lit.wf, Bool.and_eq_true, decide_eq_true_eq] at h
  exact h
theorem Tin_map {α : Type} {f : α → List T} {d : α} {L : List α} {nn : Bool} (h : Tin (.sl nn (L.map f))) {i : Nat} (hi : i < L.length) : Tins (f (L.getD i d)) := by
 cases h with
 | sl _ _ hs => exact hs _ (List.mem_map.2 ⟨_, by rw [List.getD_eq_getElem?_getD, List.getElem?_eq_getElem hi]; exact List.getElem_mem _, rfl⟩)
theorem wd_cl {W : Wd} (h : Tins W.T) : ∀ i, i < W.cr.length → -9223372036854775808 ≤ (W.cr.getD i Cr0).cl ∧ (W.cr.getD i Cr0).cl ≤ 9223372036854775807 := fun i hi => by
 have h1 : Tin (.sl false (W.cr.map Cr.T)) := h _ (by simp [Wd.T])
 exact Tin_i64 ((Tin_map (d := Cr0) h1 hi) _ (by simp [Cr.T]))
def stl (L : List Cr) (i : Nat) : List Int := [cnt L 10 i, cnt L 11 i, cnt L 12 i]
theorem getStl {L : List Cr} {i : Nat} {k : Int} (h : 0 ≤ k ∧ k ≤ 2) : ((stl L i).map iV)[0 + k.toNat]? = some [.int .i64 (cnt L (10 + k) i)] := by
 obtain ⟨h0, h2⟩ := h
 have : k = 0 ∨ k = 1 ∨ k = 2 := by omega
 rcases this with rfl | rfl | rfl <;> rfl
theorem setStl {L : List Cr} {i : Nat} {k : Int} (h : 0 ≤ k ∧ k ≤ 2) (hc : (L.getD i Cr0).cl = 10 + k) : ((stl L i).map iV).set (0 + k.toNat) [.int .i64 (cnt L (10 + k) i + 1)] = (stl L (i + 1)).map iV := by
 obtain ⟨h0, h2⟩ := h
 have : k = 0 ∨ k = 1 ∨ k = 2 := by omega
 rcases this with rfl | rfl | rfl
 ·unfold stl; rw [F6 (id := 10) (i := i) (by omega), L3 (id := 11) (i := i) (by omega), L3 (id := 12) (i := i) (by omega)]; rfl
 ·unfold stl; rw [L3 (id := 10) (i := i) (by omega), F6 (id := 11) (i := i) (by omega), L3 (id := 12) (i := i) (by omega)]; rfl
 ·unfold stl; rw [L3 (id := 10) (i := i) (by omega), L3 (id := 11) (i := i) (by omega), F6 (id := 12) (i := i) (by omega)]; rfl
theorem wrap10 {x : Int} (h : -9223372036854775808 ≤ x ∧ x ≤ 9223372036854775807) : (0 ≤ IntKind.i64.wrap (x - 10) ∧ IntKind.i64.wrap (x - 10) ≤ 2 → x = 10 + IntKind.i64.wrap (x - 10)) ∧ (0 ≤ x - 10 ∧ x - 10 ≤ 2 → IntKind.i64.wrap (x - 10) = x - 10) := by
 by_cases q : -9223372036854775808 ≤ x - 10
 ·have e : IntKind.i64.wrap (x - 10) = x - 10 := J0 q (by omega)
  rw [e]; exact ⟨fun _ => by omega, fun _ => rfl⟩
 ·refine ⟨fun z => ?_, fun z => by omega⟩
  exfalso
  have e : IntKind.i64.wrap (x - 10) = x - 10 + 18446744073709551616 := by
   have : IntKind.i64.wrap (x - 10) = IntKind.i64.wrap (x - 10 + 18446744073709551616) := by
    unfold IntKind.wrap; simp [IntKind.signed, IntKind.bits]
   rw [this]; exact J0 (by omega) (by omega)
  omega
def spA (W : Wd) (x : Cr) (c : Int) : Prop := (0 ≤ x.cl - 10 ∧ x.cl - 10 ≤ 2) ∧ x.st = c + 1 ∧ x.rq.OK ∧ x.rq.cl = x.cl ∧ x.rq.st = x.st ∧ (1 ≤ x.bg ∧ x.bg ≤ W.tm) ∧ (x.en ≠ -1 → x.bg ≤ x.en ∧ x.en ≤ W.tm) ∧ (x.en = -1 → (W.cs.getD (x.cl - 10).toNat Cl0).st = x.st ∧ (W.cs.getD (x.cl - 10).toNat Cl0).bz = true)
def clA (W : Wd) (i : Nat) : Prop := (W.cs.getD i Cl0).id = 10 + (i : Int) ∧ (W.cs.getD i Cl0).OK W.gp.nd ∧ (W.cs.getD i Cl0).st = cnt W.cr (10 + (i : Int)) W.cr.length
def Wd.SK (W : Wd) : Prop := W.hd ∧ (∀ j, j < W.cr.length → spA W (W.cr.getD j Cr0) (cnt W.cr (W.cr.getD j Cr0).cl j)) ∧ ∀ i, i < W.cs.length → clA W i
noncomputable instance dcSK (W : Wd) : Decidable W.SK := Classical.propDecidable _
theorem OK_SK (W : Wd) : W.OK ↔ W.SK := by
 constructor
 ·rintro ⟨hd, h2, h3⟩
  have hd2 := hd
  obtain ⟨_, hc3, _, _⟩ := hd2
  refine ⟨hd, fun j hj => ?_, fun i hi => ⟨(h2 i hi).1, (h2 i hi).2.1, ?_⟩⟩
  ·obtain ⟨c, hc, he⟩ := h3 j hj
   obtain ⟨i, hi, rfl⟩ := List.getElem_of_mem hc
   have e0 : W.cs.getD i Cl0 = W.cs[i] := by simp [hi]
   obtain ⟨a1, a2, a3, a4⟩ := h2 i hi
   rw [e0] at a1 a3
   have hcl : (W.cr.getD j Cr0).cl = 10 + (i : Int) := by rw [← he, a1]
   obtain ⟨b1, ⟨b2, b3, b4⟩, b5, b6⟩ := a3 j hj (by rw [a1, hcl])
   rw [a1, ← hcl, F6 rfl] at b1 b4 b6
   rw [a1] at b3
   have ei : ((W.cr.getD j Cr0).cl - 10).toNat = i := by rw [hcl]; omega
   refine ⟨by rw [hcl]; omega, b1, b2, by rw [b3, hcl], by rw [b4, b1], b5, fun hn => ?_, fun hn => ?_⟩
   ·rcases b6 with ⟨_, q⟩ | q
    ·exact absurd q hn
    ·exact q
   ·rcases b6 with ⟨⟨q1, q2⟩, _⟩ | q
    ·rw [ei, e0]; exact ⟨by rw [← q2, b1], q1⟩
    ·omega
  ·have := (h2 i hi).2.2.2
   rw [(h2 i hi).1] at this; exact this.symm
 ·rintro ⟨hd, h2, h3⟩
  have hd2 := hd
  obtain ⟨_, hc3, _, _⟩ := hd2
  refine ⟨hd, fun i hi => ⟨(h3 i hi).1, (h3 i hi).2.1, fun j hj he => ?_, ?_⟩, fun j hj => ?_⟩
  ·obtain ⟨b1, b2, b3, b4, b5, b6, b7, b8⟩ := h2 j hj
   rw [(h3 i hi).1] at he
   have ei : ((W.cr.getD j Cr0).cl - 10).toNat = i := by rw [he]; omega
   rw [(h3 i hi).1, ← he, F6 rfl]
   refine ⟨b2, ⟨b3, b4, by rw [b5, b2]⟩, b6, ?_⟩
   by_cases hn : (W.cr.getD j Cr0).en = -1
   ·obtain ⟨q1, q2⟩ := b8 hn
    rw [ei] at q1 q2
    exact .inl ⟨⟨q2, by rw [q1, b2]⟩, hn⟩
   ·exact .inr (b7 hn)
  ·rw [(h3 i hi).1]; exact (h3 i hi).2.2.symm
  ·obtain ⟨b1, _⟩ := h2 j hj
   have hlt : ((W.cr.getD j Cr0).cl - 10).toNat < W.cs.length := by omega
   refine ⟨W.cs.getD ((W.cr.getD j Cr0).cl - 10).toNat Cl0, by rw [List.getD_eq_getElem?_getD, List.getElem?_eq_getElem hlt]; exact List.getElem_mem _, ?_⟩
   show (W.cs.getD ((W.cr.getD j Cr0).cl - 10).toNat Cl0).id = (W.cr.getD j Cr0).cl
   rw [(h3 _ hlt).1]; omega
theorem r52 (W : Wd) (hb : TBs 1048576 W.T) (hcl : ∀ i, i < W.cr.length → -9223372036854775808 ≤ (W.cr.getD i Cr0).cl ∧ (W.cr.getD i Cr0).cl ≤ 9223372036854775807) : Pure En 52 [.agg W.T] [.one (.bool (decide W.SK))] := by
 obtain ⟨hG, hC, hK⟩ := Wd.tb.1 hb
 obtain ⟨hC1, hC2⟩ := (B1 ClT Cl0).1 hC
 obtain ⟨hcr, _⟩ := (B1 Cr.T Cr0).1 hK
 have hA : ∀ i, i < W.cs.length → (W.cs.getD i Cl0).acc.length ≤ 1048576 := fun i hi => ((B1 An.T An0).1 (Cl.tb.1 (hC2 i hi)).2.2).1
 have hA2 : ∀ i, i < W.cs.length → (W.cs.getD i Cl0).rps.length ≤ 1048576 := fun i hi => ((B1 Rp.T Rp0).1 (Cl.tb.1 (hC2 i hi)).2.1).1
 have hl1 : (W.cs.map ClT).length = W.cs.length := List.length_map ..
 have hl2 : (W.cr.map Cr.T).length = W.cr.length := List.length_map ..
 refine Pure.of_ev (st := []) Tryz.func52 rfl kb ?_
 (apply C3 (vs := [.int _ _, _, _, _, _]) j2; exact Q0; exact O1; rfl; exact kb; rfl)
 refine B0 (r32 W.gp hG) rfl j2 ?_ ?_ <;> intro h1_2
 ·refine A1 ?_ (by exact Q0) (by exact O1)
  refine br ?_ ?_ <;> intro h1_8
  ·refine A7 rfl ?_; rintro ⟨⟨q1, q2, q3, q4⟩, _⟩; first | exact h1_2 q1 | exact h1_19 q4 | omega
  ·refine A1 ?_ (by exact Q0) (by exact O1)
   refine br ?_ ?_ <;> intro h1_14
   ·refine A7 rfl ?_; rintro ⟨⟨q1, q2, q3, q4⟩, _⟩; first | exact h1_2 q1 | exact h1_19 q4 | omega
   ·refine A1 ?_ (by exact Q0) (by exact O1)
    refine B0 (O3 _ _ _) rfl j2 ?_ ?_ <;> intro h1_19
    ·refine emk (s' := 8) j6 kz ?_ ?_ ?_
     ·(first | omega | assumption | decide)
     ·(first | omega | assumption | decide)
     refine B3 (fun (a : Nat × Nat) => [.unk, .ptr 0 0 0, .unk, .view 1 0 3, .int .i64 a.1]) (fun (a : Nat × Nat) => hp [(0, ⟨[[.int .i64 W.gp.nd, .sl false false (W.gp.fa.map iT), .sl false false (W.gp.rs.map Rep.T), .sl false false (W.gp.wi.map Pc.T), .sl false false (W.gp.se.map Msg.T), .sl false false (W.cs.map ClT), .sl false false (W.cr.map Cr.T), .int .i64 W.tm]], 8, 92⟩), (1, ⟨(stl W.cr a.1).map iV, 1, 3⟩)]) (fun (a : Nat × Nat) => a.2) (fun (a : Nat × Nat) => a.1 ≤ W.cr.length ∧ 2 ≤ a.2 ∧ ∀ j, j < a.1 → spA W (W.cr.getD j Cr0) (cnt W.cr (W.cr.getD j Cr0).cl j)) (fun (a : Nat × Nat) => W.cr.length - a.1) (0, 2) ?_ ?_ ?_ ?_ ?_
     ·exact ⟨Nat.zero_le _, Nat.le_refl _, E6⟩
     ·(repeat first | exact LE.nil _ | refine LE.unk _ _ ?_ | refine LE.eq _ _ _ rfl ?_)
     ·(repeat first | exact A5 | (refine A4 ?_ ?_; exact H8))
     ·exact Nat.le_refl _
     intro ⟨i, m⟩ hI ih
     obtain ⟨u0, u1, u2⟩ := hI
     dsimp only at u0 u1 u2 ⊢
     have hk10 := cnt_bd W.cr 10 i
     have hk3 : W.cs.length = 3 := by omega
     have hkb : ∀ k : Int, 0 ≤ cnt W.cr (10 + k) i ∧ cnt W.cr (10 + k) i ≤ i := fun k => cnt_bd W.cr (10 + k) i
     refine A6 (st := []) ?_
     refine A1 ?_ (by exact Q0) (by exact O1)
     refine br ?_ ?_ <;> intro h5_4
     ·refine A1 ?_ (by exact Q0) (by exact O1)
      (refine B9 (C5 (by first | rfl | assumption | exact Q35) rfl ?_))
      (apply est (u := .agg [.int _ _, .int _ _, .int _ _, .int _ _, .int _ _, .int _ _, .str _, .int _ _, .int _ _, .int _ _, .int _ _, .int _ _, .int _ _]) j3; exact Q0; exact O1; exact j4; exact kb; rfl)
      refine A1 ?_ (by exact Q0) (by exact O1)
      refine arW ?_
      obtain ⟨hkc, hkk⟩ := wrap10 (hcl i (by omega))
      generalize IntKind.i64.wrap ((W.cr.getD i Cr0).cl - 10) = kk at hkc hkk ⊢
      refine B0 (O3 _ _ _) rfl j2 ?_ ?_ <;> intro h9_1
      ·refine A1 ?_ (by exact Q0) (by exact O1)
       (refine H1 (by exact Q0) ⟨rfl, B9 ?_⟩)
       refine A1 ?_ (by exact Q0) (by exact O1)
       refine D3 ⟨by (first | omega | (have := hkb kk; omega)), by (first | omega | (have := hkb kk; omega))⟩ ?_
       refine br ?_ ?_ <;> intro h9_11
       ·refine A7 rfl ?_; rintro ⟨_, q2, _⟩; obtain ⟨e1, e2, e3, e4, e5, e6, e7, e8⟩ := q2 i (by omega); first | exact h9_1 (by rw [hkk e1]; exact e1) | (have ec := hkc h9_1; rw [ec] at e2; first | omega | exact h9_16 e3 | exact h9_40 e6)
       ·(apply C3 (vs := [.int _ _, .int _ _, .int _ _, .int _ _, .str _]) j2; exact Q0; exact O1; rfl; exact kb; rfl)
        refine B0 (s52 (W.cr.getD i Cr0).rq) rfl j2 ?_ ?_ <;> intro h9_16
        ·refine A1 ?_ (by exact Q0) (by exact O1)
         refine A1 ?_ (by exact Q0) (by exact O1)
         refine br ?_ ?_ <;> intro h9_25
         ·refine A7 rfl ?_; rintro ⟨_, q2, _⟩; obtain ⟨e1, e2, e3, e4, e5, e6, e7, e8⟩ := q2 i (by omega); first | exact h9_1 (by rw [hkk e1]; exact e1) | (have ec := hkc h9_1; rw [ec] at e2; first | omega | exact h9_16 e3 | exact h9_40 e6)
         ·refine A1 ?_ (by exact Q0) (by exact O1)
          refine A1 ?_ (by exact Q0) (by exact O1)
          refine br ?_ ?_ <;> intro h9_33
          ·refine A7 rfl ?_; rintro ⟨_, q2, _⟩; obtain ⟨e1, e2, e3, e4, e5, e6, e7, e8⟩ := q2 i (by omega); first | exact h9_1 (by rw [hkk e1]; exact e1) | (have ec := hkc h9_1; rw [ec] at e2; first | omega | exact h9_16 e3 | exact h9_40 e6)
          ·refine A1 ?_ (by exact Q0) (by exact O1)
           refine A1 ?_ (by exact Q0) (by exact O1)
           refine B0 (O3 _ _ _) rfl j2 ?_ ?_ <;> intro h9_40
           ·have ec := hkc h9_1
            (refine H1 (by exact Q0) ⟨rfl, B9 ?_⟩)
            refine A1 ?_ (by exact Q0) (by exact O1)
            refine D3 ⟨by (first | omega | (have := hkb kk; omega)), by (first | omega | (have := hkb kk; omega))⟩ ?_
            (refine H1 (by exact Q0) ⟨rfl, B9 ?_⟩)
            (apply est (u := .int _ _) j3; exact Q0; exact O1; exact j4; exact kb; rfl)
            refine A1 ?_ (by exact Q0) (by exact O1)
            refine br ?_ ?_ <;> intro h12_2
            ·refine A1 ?_ (by exact Q0) (by exact O1)
             refine A1 ?_ (by exact Q0) (by exact O1)
             refine A1 ?_ (by exact Q0) (by exact O1)
             refine B0 (O3 _ _ _) rfl j2 ?_ ?_ <;> intro h12_10
             ·refine A1 ?_ (by exact Q0) (by exact O1)
              refine br (fun h => absurd h (h12_2)) ?_
              intro h14_2
              refine D3 ⟨by (first | omega | (have := hkb kk; omega)), by (first | omega | (have := hkb kk; omega))⟩ ?_
              exact C6 (ih (i + 1, m + 1) ⟨by dsimp only; omega, by dsimp only; omega, C8 u2 ⟨by rw [ec]; omega, by rw [ec]; omega, h9_16, by omega, by omega, h9_40, fun q => by first | exact h12_10 | exact absurd h12_2 (fun z => z q), fun q => by first | exact absurd q h12_2 | exact absurd q h14_2 | (rw [show ((W.cr.getD i Cr0).cl - 10).toNat = kk.toNat by rw [ec]; congr 1; omega]; exact ⟨by omega, h14_22⟩)⟩⟩ (by dsimp only; omega)) (by (repeat first | exact LE.nil _ | refine LE.unk _ _ ?_ | refine LE.eq _ _ _ rfl ?_)) (by refine A4 (by exact Q0) (A4 ?_ A5); ((simp (disch := omega) only [↓app0, ↓appC, ↓updS, ↓updN, ↓hpS, ↓hpN]); exact congrArg (fun z => some (Blk.mk z 1 3)) (setStl h9_1 ec))) (Nat.le_refl _)
             ·refine A7 rfl ?_; rintro ⟨_, q2, _⟩; obtain ⟨e1, e2, e3, e4, e5, e6, e7, e8⟩ := q2 i (by omega); exact h12_10 (e7 h12_2)
            ·refine A1 ?_ (by exact Q0) (by exact O1)
             refine br ?_ (fun h => absurd (by omega) h)
             intro h14_2
             refine A1 ?_ (by exact Q0) (by exact O1)
             (refine B9 (C5 (by first | rfl | assumption | exact Q35) rfl ?_))
             refine A1 ?_ (by exact Q0) (by exact O1)
             refine A1 ?_ (by exact Q0) (by exact O1)
             refine B0 (O3 _ _ _) rfl j2 ?_ ?_ <;> intro h14_14
             ·refine A1 ?_ (by exact Q0) (by exact O1)
              (refine B9 (C5 (by first | rfl | assumption | exact Q35) rfl ?_))
              refine brB ?_ ?_ <;> intro h14_22
              ·refine D3 ⟨by (first | omega | (have := hkb kk; omega)), by (first | omega | (have := hkb kk; omega))⟩ ?_
               exact C6 (ih (i + 1, m + 1) ⟨by dsimp only; omega, by dsimp only; omega, C8 u2 ⟨by rw [ec]; omega, by rw [ec]; omega, h9_16, by omega, by omega, h9_40, fun q => by first | exact h12_10 | exact absurd h12_2 (fun z => z q), fun q => by first | exact absurd q h12_2 | exact absurd q h14_2 | (rw [show ((W.cr.getD i Cr0).cl - 10).toNat = kk.toNat by rw [ec]; congr 1; omega]; exact ⟨by omega, h14_22⟩)⟩⟩ (by dsimp only; omega)) (by (repeat first | exact LE.nil _ | refine LE.unk _ _ ?_ | refine LE.eq _ _ _ rfl ?_)) (by refine A4 (by exact Q0) (A4 ?_ A5); ((simp (disch := omega) only [↓app0, ↓appC, ↓updS, ↓updN, ↓hpS, ↓hpN]); exact congrArg (fun z => some (Blk.mk z 1 3)) (setStl h9_1 ec))) (Nat.le_refl _)
              ·refine A7 rfl ?_; rintro ⟨_, q2, _⟩; obtain ⟨e1, e2, e3, e4, e5, e6, e7, e8⟩ := q2 i (by omega); have e9 := e8 h14_2; rw [show ((W.cr.getD i Cr0).cl - 10).toNat = kk.toNat by rw [ec]; congr 1; omega] at e9; first | omega | (rw [h14_22] at e9; cases e9.2)
             ·refine A7 rfl ?_; rintro ⟨_, q2, _⟩; obtain ⟨e1, e2, e3, e4, e5, e6, e7, e8⟩ := q2 i (by omega); have e9 := e8 h14_2; rw [show ((W.cr.getD i Cr0).cl - 10).toNat = kk.toNat by rw [ec]; congr 1; omega] at e9; first | omega | (rw [h14_22] at e9; cases e9.2)
           ·refine A7 rfl ?_; rintro ⟨_, q2, _⟩; obtain ⟨e1, e2, e3, e4, e5, e6, e7, e8⟩ := q2 i (by omega); first | exact h9_1 (by rw [hkk e1]; exact e1) | (have ec := hkc h9_1; rw [ec] at e2; first | omega | exact h9_16 e3 | exact h9_40 e6)
        ·refine A7 rfl ?_; rintro ⟨_, q2, _⟩; obtain ⟨e1, e2, e3, e4, e5, e6, e7, e8⟩ := q2 i (by omega); first | exact h9_1 (by rw [hkk e1]; exact e1) | (have ec := hkc h9_1; rw [ec] at e2; first | omega | exact h9_16 e3 | exact h9_40 e6)
      ·refine A7 rfl ?_; rintro ⟨_, q2, _⟩; obtain ⟨e1, e2, e3, e4, e5, e6, e7, e8⟩ := q2 i (by omega); first | exact h9_1 (by rw [hkk e1]; exact e1) | (have ec := hkc h9_1; rw [ec] at e2; first | omega | exact h9_16 e3 | exact h9_40 e6)
     ·obtain rfl : i = W.cr.length := by omega
      refine B3 (fun (i2 : Nat) => [.unk, .ptr 0 0 0, .unk, .view 1 0 3, .unk, .unk, .unk, .int .i64 i2]) (fun (i2 : Nat) => hp [(0, ⟨[[.int .i64 W.gp.nd, .sl false false (W.gp.fa.map iT), .sl false false (W.gp.rs.map Rep.T), .sl false false (W.gp.wi.map Pc.T), .sl false false (W.gp.se.map Msg.T), .sl false false (W.cs.map ClT), .sl false false (W.cr.map Cr.T), .int .i64 W.tm]], 8, 92⟩), (1, ⟨(stl W.cr W.cr.length).map iV, 1, 3⟩)]) (fun (i2 : Nat) => m) (fun (i2 : Nat) => i2 ≤ 3 ∧ ∀ j, j < i2 → clA W j) (fun (i2 : Nat) => 3 - i2) 0 ?_ ?_ ?_ ?_ ?_
      ·exact ⟨Nat.zero_le _, E6⟩
      ·(repeat first | exact LE.nil _ | refine LE.unk _ _ ?_ | refine LE.eq _ _ _ rfl ?_)
      ·(repeat first | exact A5 | (refine A4 ?_ ?_; exact H8))
      ·exact Nat.le_refl _
      intro i2 hI ih
      obtain ⟨v0, v2⟩ := hI
      refine A6 (st := []) ?_
      refine br ?_ ?_ <;> intro h17_1
      ·refine A1 ?_ (by exact Q0) (by exact O1)
       (refine B9 (C5 (by first | rfl | assumption | exact Q35) rfl ?_))
       refine D3 ⟨by (first | omega | (have := hkb kk; omega)), by (first | omega | (have := hkb kk; omega))⟩ ?_
       refine br ?_ ?_ <;> intro h19_8
       ·refine A7 rfl ?_; rintro ⟨_, _, q3⟩; obtain ⟨e1, e2, e3⟩ := q3 i2 (by omega); first | omega | exact h19_18 e2
       ·refine A1 ?_ (by exact Q0) (by exact O1)
        refine A1 ?_ (by exact Q0) (by exact O1)
        (refine B9 (C5 (by first | rfl | assumption | exact Q35) rfl ?_))
        refine B0 (s23 W.gp.nd (W.cs.getD i2 Cl0) false false (hA i2 (by omega)) (hA2 i2 (by omega))) rfl j2 ?_ ?_ <;> intro h19_18
        ·refine A1 ?_ (by exact Q0) (by exact O1)
         (refine B9 (C5 (by first | rfl | assumption | exact Q35) rfl ?_))
         (refine H1 (by exact Q0) ⟨rfl, B9 ?_⟩)
         refine A1 ?_ (by exact Q0) (by exact O1)
         refine br ?_ ?_ <;> intro h19_32
         ·refine A7 rfl ?_; rintro ⟨_, _, q3⟩; obtain ⟨e1, e2, e3⟩ := q3 i2 (by omega); first | omega | exact h19_18 e2
         ·refine D3 ⟨by (first | omega | (have := hkb kk; omega)), by (first | omega | (have := hkb kk; omega))⟩ ?_
          exact C6 (ih (i2 + 1) ⟨by omega, C8 v2 ⟨by omega, h19_18, by omega⟩⟩ (by omega)) (by (repeat first | exact LE.nil _ | refine LE.unk _ _ ?_ | refine LE.eq _ _ _ rfl ?_)) (by (repeat first | exact A5 | (refine A4 ?_ ?_; exact H8))) (Nat.le_refl _)
        ·refine A7 rfl ?_; rintro ⟨_, _, q3⟩; obtain ⟨e1, e2, e3⟩ := q3 i2 (by omega); first | omega | exact h19_18 e2
      ·refine B7 rfl ?_; exact ⟨⟨h1_2, by omega, by omega, h1_19⟩, fun j hj => u2 j hj, fun j hj => v2 j (by omega)⟩
    ·refine A7 rfl ?_; rintro ⟨⟨q1, q2, q3, q4⟩, _⟩; first | exact h1_2 q1 | exact h1_19 q4 | omega
 ·refine A7 rfl ?_; rintro ⟨⟨q1, q2, q3, q4⟩, _⟩; first | exact h1_2 q1 | exact h1_19 q4 | omega
theorem r52w (W : Wd) (hb : TBs 1048576 W.T) (hcl : ∀ i, i < W.cr.length → -9223372036854775808 ≤ (W.cr.getD i Cr0).cl ∧ (W.cr.getD i Cr0).cl ≤ 9223372036854775807) : Pure En 52 [.agg W.T] [.one (.bool (decide W.OK))] := by
 have h := r52 W hb hcl
 rwa [decide_eq_decide.2 (OK_SK W).symm] at h
theorem law12 (W : Wd) (hb : TBs 9223372036854775807 W.T) (hcl : ∀ i, i < W.cr.length → -9223372036854775808 ≤ (W.cr.getD i Cr0).cl ∧ (W.cr.getD i Cr0).cl ≤ 9223372036854775807) : Pure En 12 [.agg W.T] [.one (.bool true)] := by
 refine Pure.of_ev (st := []) Tryz.func12 rfl kb ?_
 (apply C3 (vs := [.int _ _, _, _, _, _, _, _, .int _ _]) j2; exact Q0; rfl; rfl; exact kb; rfl)
 refine G2 (lz51 W 1048576 (by omega) hb) rfl j2 ?_
 rintro x h2_2
 try dsimp only at h2_2
 have hX : 0 ≤ x → TBs 1048576 W.T := h2_2.2
 have hX1 := h2_2.1
 refine br ?_ ?_ <;> intro h3_1
 ·first | exact B4 rfl rfl | (exfalso; simp_all; done)
 ·(apply C3 (vs := [.int _ _, _, _, _, _, _, _, .int _ _]) j2; exact Q0; rfl; rfl; exact kb; rfl)
  refine C1 (lt53 W (hX (by omega))) rfl rfl rfl ?_
  refine B0 (r52w W (hX (by omega)) hcl) rfl j2 ?_ ?_ <;> intro h5_2
  ·(apply C3 (vs := [.int _ _, _, _, _, _, _, _, .int _ _]) j2; exact Q0; rfl; rfl; exact kb; rfl)
   refine C1 (lt53 W (hX (by omega))) rfl rfl rfl ?_
   (apply est (u := .agg [.int _ _, _, _, _, _, _, _, .int _ _]) j3; exact Q0; rfl; exact j4; exact kb; rfl)
   (apply C3 (vs := [.int _ _, _, _, _, _, _, _, .int _ _]) j2; exact Q0; rfl; rfl; exact kb; rfl)
   refine B0 (s54w W (hX (by omega))) rfl j2 ?_ ?_ <;> intro h7_1
   ·(apply C3 (vs := [.int _ _, _, _, _, _, _, _, .int _ _]) j2; exact Q0; rfl; rfl; exact kb; rfl)
    (apply C3 (vs := [.int _ _, _, _, _, _, _, _, .int _ _]) j2; exact Q0; rfl; rfl; exact kb; rfl)
    refine C1 (lt53 W (hX (by omega))) rfl rfl rfl ?_
    refine C1 (le55 W (hX (by omega))) rfl rfl rfl ?_
    first | exact B4 rfl rfl | (exfalso; simp_all; done)
   ·first | exact B4 rfl rfl | (exfalso; simp_all; done)
  ·(apply C3 (vs := [.int _ _, _, _, _, _, _, _, .int _ _]) j2; exact Q0; rfl; rfl; exact kb; rfl)
   refine C1 (lt53 W (hX (by omega))) rfl rfl rfl ?_
   (apply est (u := .agg [.int _ _, _, _, _, _, _, _, .int _ _]) j3; exact Q0; rfl; exact j4; exact kb; rfl)
   (apply C3 (vs := [.int _ _, _, _, _, _, _, _, .int _ _]) j2; exact Q0; rfl; rfl; exact kb; rfl)
   refine B0 (s54w W (hX (by omega))) rfl j2 ?_ ?_ <;> intro h7_1
   ·first | exact B4 rfl rfl | (exfalso; simp_all; done)
   ·(apply C3 (vs := [.int _ _, _, _, _, _, _, _, .int _ _]) j2; exact Q0; rfl; rfl; exact kb; rfl)
    (apply C3 (vs := [.int _ _, _, _, _, _, _, _, .int _ _]) j2; exact Q0; rfl; rfl; exact kb; rfl)
    refine C1 (lt53 W (hX (by omega))) rfl rfl rfl ?_
    refine C1 (le55 W (hX (by omega))) rfl rfl rfl ?_
    first | exact B4 rfl rfl | (exfalso; simp_all; done)
open Go Go.ClosedOfChecked
set_option linter.unusedVariables false
set_option maxRecDepth 20000
set_option maxHeartbeats 4000000
theorem joined_intro {P : Program} {f : FuncId} {fn : Func} {s : ChangeSpec} {c : OpenClaim} (a1 : c.wf (OpenSpec.ofChange s) = true) (a2 : laidOutB P = true) (a3 : mapsRowed P = true) (a4 : fn.params.all (P.readableRec ·) = true) (a5 : namedTie P c.named s.vars = true) (a6 : (c.stops == []) = true) (a7 : (P.stops == []) = true) (a8 : (c.knobs == []) = true) (a9 : (P.stopKnobs == []) = true) (b1 : (c.inPlace == P.inPlace f) = true) (b2 : (c.unfollowed == P.unfollowed f) = true) (b3 : (c.recurses == P.recurses f) = true) (b4 : (c.named == P.varsNamed f) = true) (b5 : (c.maps == (fn.params.toList ++ s.plain.varTypes P).any (P.mapsRec ·)) = true) (b6 : (c.ifaces == (fn.params.toList ++ s.plain.varTypes P).any (P.ifacesRec ·)) = true) (b7 : (c.mapsOut == P.mapsAmong fn.resultTypes.toList) = true) (b8 : (c.loops == (fn.params.toList ++ s.plain.varTypes P).any (P.loopsFrom ·)) = true) (b9 : (c.wideKeys == (fn.params.toList ++ s.plain.varTypes P ++ fn.resultTypes.toList).any (P.wideKeysFrom ·)) = true) (c1 : s.vars.all (P.varReadable ·) = true) (c2 : fn.resultTypes.all (fun t => P.readableRec t && decide (t < P.types.size)) = true) (c3 : (c.ifacesOut == fn.resultTypes.toList.any (P.ifacesRec ·)) = true) (c4 : (c.loopsOut == fn.resultTypes.toList.any (P.loopsFrom ·)) = true) (c5 : (c.plainKeys == P.plainKeys) = true) (c6 : c.shortTexts.isNone = true) (c7 : P.stopsHeard = true) (c8 : P.mayEnter = true) (c9 : (c.lifted == P.liftsFinal) = true) (d1 : (P.make == some c.make) = true) (d2 : (c.kinds == (if c.domain.isEmpty then [] else fn.params.toList.map fun t => match P.underlying t with | some (.int k) => some k | _ => none)) = true) (d3 : (c.pinned == c.pinnedBy) = true) (d4 : (c.veiled == (fn.params.toList ++ s.plain.varTypes P ++ fn.resultTypes.toList).any (P.veiledRec ·)) = true) (d5 : c.veiledFits P fn.params.toList (fn.params.toList ++ s.plain.varTypes P ++ fn.resultTypes.toList) = true) : joinedFacts P f fn s c = true := by
 unfold joinedFacts
 simp only [a1, a2, a3, a4, a5, a6, a7, a8, a9, b1, b2, b3, b4, b5, b6, b7, b8, b9, c1, c2, c3, c4, c5, c6, c7, c8, c9, d1, d3, d4, d5, Bool.true_and, Bool.and_true]
 exact d2
theorem jn_ty : Tryz.checked.prog.types = Tryz.checked.src.types := by kernel_rfl
theorem jn_rest : (Tryz.checked.prog.globals.all (fun g => decide (g.type < Tryz.checked.prog.types.size)) && Tryz.checked.prog.funcs.all (fun f => f.params.all fun t => decide (t < Tryz.checked.prog.types.size))) = true := by kernel_rfl
theorem jn_laid : laidOutB Tryz.checked.prog = true := laidOutB_of (allSpec_of Tryz.checked.wellFormed jn_ty) jn_rest
theorem jn_maps : mapsRowed Tryz.checked.prog = true := mapsRowed_of (allSpec_of Tryz.checked.wellFormed jn_ty)
theorem jn_keys : (false == Tryz.checked.prog.plainKeys) = true := by kernel_rfl
theorem jn_stops : (Tryz.prog.stops == []) = true := by kernel_rfl
theorem jn_knobs : (Tryz.prog.stopKnobs == []) = true := by kernel_rfl
theorem jn_heard : Tryz.prog.stopsHeard = true := by kernel_rfl
theorem jn_enter : Tryz.prog.mayEnter = true := by kernel_rfl
end Go.Proofs.YteifdelnahccjaaGreatDoor
namespace Go.Proofs.YteifdelnahccjaaGreatDoor.fnExactWorldOK
open Go
set_option linter.unusedVariables false
set_option maxRecDepth 20000
set_option maxHeartbeats 4000000
theorem k1 : (Rows.fnExactWorldOKRow.inPlace == Tryz.pinned.checked.prog.inPlace 12) = true := by kernel_rfl
theorem k2 : (Rows.fnExactWorldOKRow.unfollowed == Tryz.pinned.checked.prog.unfollowed 12) = true := by kernel_rfl
theorem k3 : (Rows.fnExactWorldOKRow.recurses == Tryz.pinned.checked.prog.recurses 12) = true := by kernel_rfl
theorem k4 : (Rows.fnExactWorldOKRow.named == Tryz.pinned.checked.prog.varsNamed 12) = true := by kernel_rfl
theorem k5 : (Rows.fnExactWorldOKRow.lifted == Tryz.pinned.checked.prog.liftsFinal) = true := by kernel_rfl
theorem k6 : (Tryz.pinned.checked.prog.make == some Rows.fnExactWorldOKRow.make) = true := by kernel_rfl
theorem joined : joinedFacts Tryz.pinned.checked.prog 12 Tryz.f12 (OpenSpec.ofChange Rows.fnExactWorldOKSpec).bare Rows.fnExactWorldOKRow = true :=
 joined_intro (by kernel_rfl) jn_laid jn_maps (by kernel_rfl) (by kernel_rfl) (by kernel_rfl) jn_stops (by kernel_rfl) jn_knobs k1 k2 k3 k4 (by kernel_rfl) (by kernel_rfl) (by kernel_rfl) (by kernel_rfl) (by kernel_rfl)
  (by kernel_rfl) (by kernel_rfl) (by kernel_rfl) (by kernel_rfl) jn_keys (by kernel_rfl) jn_heard jn_enter k5 k6 (by kernel_rfl) (by kernel_rfl) (by kernel_rfl) (by kernel_rfl)
theorem w1 : Rows.fnExactWorldOKRow.wfByText (OpenSpec.ofChange Rows.fnExactWorldOKSpec) = true := by kernel_rfl
theorem w3 : false = Rows.fnExactWorldOKRow.goesBy Tryz.pinned.checked.prog := by kernel_rfl
theorem w4 : false = Tryz.pinned.checked.prog.looks [] := by kernel_rfl
theorem w5 : Tryz.prog.funcNamed "loop.example/g00292/laws.FnExactWorldOK" = some 12 := by kernel_rfl
theorem st86 : Tryz.prog.wantsStandIn 86 = false := by kernel_rfl
theorem plain (f : FuncId) (fn : Func) (hf : Tryz.pinned.checked.prog.funcNamed "loop.example/g00292/laws.FnExactWorldOK" = some f) (hfn : Tryz.pinned.checked.prog.funcs[f]? = some fn) :
  false = Tryz.pinned.checked.prog.looks [] ∧ ∀ (j : Nat) t, fn.params[j]? = some t → Tryz.pinned.checked.prog.wantsStandIn t = false := by
 obtain rfl : f = 12 := Option.some.inj (w5.symm.trans hf) |>.symm
 obtain rfl : fn = Tryz.f12 := (Option.some.inj (Tryz.func12.symm.trans hfn)).symm
 refine ⟨w4, fun j t ht => ?_⟩
 rw [Tryz.params12] at ht
 have hm := Array.mem_of_getElem? ht
 simp only [List.mem_toArray, List.mem_cons, List.not_mem_nil, or_false] at hm
 obtain rfl := hm
 exact st86
end Go.Proofs.YteifdelnahccjaaGreatDoor.fnExactWorldOK
