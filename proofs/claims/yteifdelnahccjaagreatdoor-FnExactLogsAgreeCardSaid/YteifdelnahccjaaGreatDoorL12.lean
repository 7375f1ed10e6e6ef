import Derived.Test.YteifdelnahccjaaGreatDoorRows
import Derived.ProofKit
import Derived.ClosedOfChecked
import Derived.Deep.DeepHandedRow
import Derived.Test.YteifdelnahccjaaGreatDoorCards
import Derived.Test.YteifdelnahccjaaGreatDoorL11
namespace Go.Proofs.YteifdelnahccjaaGreatDoor
open Go.V
set_option linter.unusedVariables false
set_option linter.unusedSimpArgs false
set_option maxRecDepth 20000
set_option maxHeartbeats 4000000
theorem r92 (n : Int) (hn : nodes n) (F : List Int) (b : Bool) (hF : F.length ≤ 1048576) : Pure En 92 [.one (.int .i64 n), .one (.sl b (F.map iT))] [.one (.bool (decide (fyOK n F)))] := by
 have hl : (F.map iT).length = F.length := List.length_map ..
 rcases hn with rfl | rfl | rfl
 ·refine Pure.of_ev (st := []) Tryz.func92 rfl kb ?_
  refine A9 ?_
  refine A9 ?_
  refine br ?_ ?_ <;> intro h1_5
  ·have hk : IntKind.i64.wrap (Int.tdiv (1 - 1) 3) = 0 := rfl
   refine B0 rfl ?_; rintro ⟨q1, _⟩; omega
  ·have hk : IntKind.i64.wrap (Int.tdiv (1 - 1) 3) = 0 := rfl
   have hk2 : (F.length : Int) ≤ 0 := by omega
   refine C3 (fun (i : Nat) => [.int .i64 1, .sl false b (F.map iT), .unk, .unk, .unk, .int .i64 i]) (fun (i : Nat) => i ≤ F.length ∧ ∀ j, j < i → (0 ≤ F.getD j 0 ∧ F.getD j 0 ≤ 1 - 1) ∧ (0 < j → F.getD (j - 1) 0 < F.getD j 0)) (fun (i : Nat) => F.length - i) 0 ?_ ?_ ?_
   ·exact ⟨Nat.zero_le _, D8⟩
   ·(repeat first | exact LE.nil _ | refine LE.unk _ _ ?_ | refine LE.eq _ _ _ rfl ?_)
   intro i hI ih
   obtain ⟨u0, u2⟩ := hI
   refine A6 (st := []) ?_
   refine br ?_ ?_ <;> intro h4_3
   ·(refine A9 (C4 (by first | rfl | assumption | exact Q17) rfl ?_))
    refine A9 ?_
    refine B3 (s50 _ _ _) rfl j2 ?_ ?_ <;> intro h6_6
    ·refine br ?_ ?_ <;> intro h6_10
     ·refine A9 ?_
      (refine A9 (C4 (by first | rfl | assumption | exact Q17) rfl ?_))
      (refine A9 (C4 (by first | rfl | assumption | exact Q17) rfl ?_))
      refine br ?_ ?_ <;> intro h6_21
      ·refine B0 rfl ?_; rintro ⟨_, q⟩; obtain ⟨e1, e2⟩ := q i (by omega); first | exact h6_6 e1 | (have := e2 (by omega); omega)
      ·refine A9 ?_
       exact P2 (ih (i + 1) ⟨by omega, D0 u2 ⟨h6_6, fun _ => by omega⟩⟩ (by omega)) (by (repeat first | exact LE.nil _ | refine LE.unk _ _ ?_ | refine LE.eq _ _ _ rfl ?_))
     ·refine A9 ?_
      exact P2 (ih (i + 1) ⟨by omega, D0 u2 ⟨h6_6, fun _ => by omega⟩⟩ (by omega)) (by (repeat first | exact LE.nil _ | refine LE.unk _ _ ?_ | refine LE.eq _ _ _ rfl ?_))
    ·refine B0 rfl ?_; rintro ⟨_, q⟩; obtain ⟨e1, e2⟩ := q i (by omega); first | exact h6_6 e1 | (have := e2 (by omega); omega)
   ·refine B8 rfl ?_; exact ⟨by omega, fun j hj => u2 j (by omega)⟩
 ·refine Pure.of_ev (st := []) Tryz.func92 rfl kb ?_
  refine A9 ?_
  refine A9 ?_
  refine br ?_ ?_ <;> intro h1_5
  ·have hk : IntKind.i64.wrap (Int.tdiv (4 - 1) 3) = 1 := rfl
   refine B0 rfl ?_; rintro ⟨q1, _⟩; omega
  ·have hk : IntKind.i64.wrap (Int.tdiv (4 - 1) 3) = 1 := rfl
   have hk2 : (F.length : Int) ≤ 1 := by omega
   refine C3 (fun (i : Nat) => [.int .i64 4, .sl false b (F.map iT), .unk, .unk, .unk, .int .i64 i]) (fun (i : Nat) => i ≤ F.length ∧ ∀ j, j < i → (0 ≤ F.getD j 0 ∧ F.getD j 0 ≤ 4 - 1) ∧ (0 < j → F.getD (j - 1) 0 < F.getD j 0)) (fun (i : Nat) => F.length - i) 0 ?_ ?_ ?_
   ·exact ⟨Nat.zero_le _, D8⟩
   ·(repeat first | exact LE.nil _ | refine LE.unk _ _ ?_ | refine LE.eq _ _ _ rfl ?_)
   intro i hI ih
   obtain ⟨u0, u2⟩ := hI
   refine A6 (st := []) ?_
   refine br ?_ ?_ <;> intro h4_3
   ·(refine A9 (C4 (by first | rfl | assumption | exact Q17) rfl ?_))
    refine A9 ?_
    refine B3 (s50 _ _ _) rfl j2 ?_ ?_ <;> intro h6_6
    ·refine br ?_ ?_ <;> intro h6_10
     ·refine A9 ?_
      (refine A9 (C4 (by first | rfl | assumption | exact Q17) rfl ?_))
      (refine A9 (C4 (by first | rfl | assumption | exact Q17) rfl ?_))
      refine br ?_ ?_ <;> intro h6_21
      ·refine B0 rfl ?_; rintro ⟨_, q⟩; obtain ⟨e1, e2⟩ := q i (by omega); first | exact h6_6 e1 | (have := e2 (by omega); omega)
      ·refine A9 ?_
       exact P2 (ih (i + 1) ⟨by omega, D0 u2 ⟨h6_6, fun _ => by omega⟩⟩ (by omega)) (by (repeat first | exact LE.nil _ | refine LE.unk _ _ ?_ | refine LE.eq _ _ _ rfl ?_))
     ·refine A9 ?_
      exact P2 (ih (i + 1) ⟨by omega, D0 u2 ⟨h6_6, fun _ => by omega⟩⟩ (by omega)) (by (repeat first | exact LE.nil _ | refine LE.unk _ _ ?_ | refine LE.eq _ _ _ rfl ?_))
    ·refine B0 rfl ?_; rintro ⟨_, q⟩; obtain ⟨e1, e2⟩ := q i (by omega); first | exact h6_6 e1 | (have := e2 (by omega); omega)
   ·refine B8 rfl ?_; exact ⟨by omega, fun j hj => u2 j (by omega)⟩
 ·refine Pure.of_ev (st := []) Tryz.func92 rfl kb ?_
  refine A9 ?_
  refine A9 ?_
  refine br ?_ ?_ <;> intro h1_5
  ·have hk : IntKind.i64.wrap (Int.tdiv (7 - 1) 3) = 2 := rfl
   refine B0 rfl ?_; rintro ⟨q1, _⟩; omega
  ·have hk : IntKind.i64.wrap (Int.tdiv (7 - 1) 3) = 2 := rfl
   have hk2 : (F.length : Int) ≤ 2 := by omega
   refine C3 (fun (i : Nat) => [.int .i64 7, .sl false b (F.map iT), .unk, .unk, .unk, .int .i64 i]) (fun (i : Nat) => i ≤ F.length ∧ ∀ j, j < i → (0 ≤ F.getD j 0 ∧ F.getD j 0 ≤ 7 - 1) ∧ (0 < j → F.getD (j - 1) 0 < F.getD j 0)) (fun (i : Nat) => F.length - i) 0 ?_ ?_ ?_
   ·exact ⟨Nat.zero_le _, D8⟩
   ·(repeat first | exact LE.nil _ | refine LE.unk _ _ ?_ | refine LE.eq _ _ _ rfl ?_)
   intro i hI ih
   obtain ⟨u0, u2⟩ := hI
   refine A6 (st := []) ?_
   refine br ?_ ?_ <;> intro h4_3
   ·(refine A9 (C4 (by first | rfl | assumption | exact Q17) rfl ?_))
    refine A9 ?_
    refine B3 (s50 _ _ _) rfl j2 ?_ ?_ <;> intro h6_6
    ·refine br ?_ ?_ <;> intro h6_10
     ·refine A9 ?_
      (refine A9 (C4 (by first | rfl | assumption | exact Q17) rfl ?_))
      (refine A9 (C4 (by first | rfl | assumption | exact Q17) rfl ?_))
      refine br ?_ ?_ <;> intro h6_21
      ·refine B0 rfl ?_; rintro ⟨_, q⟩; obtain ⟨e1, e2⟩ := q i (by omega); first | exact h6_6 e1 | (have := e2 (by omega); omega)
      ·refine A9 ?_
       exact P2 (ih (i + 1) ⟨by omega, D0 u2 ⟨h6_6, fun _ => by omega⟩⟩ (by omega)) (by (repeat first | exact LE.nil _ | refine LE.unk _ _ ?_ | refine LE.eq _ _ _ rfl ?_))
     ·refine A9 ?_
      exact P2 (ih (i + 1) ⟨by omega, D0 u2 ⟨h6_6, fun _ => by omega⟩⟩ (by omega)) (by (repeat first | exact LE.nil _ | refine LE.unk _ _ ?_ | refine LE.eq _ _ _ rfl ?_))
    ·refine B0 rfl ?_; rintro ⟨_, q⟩; obtain ⟨e1, e2⟩ := q i (by omega); first | exact h6_6 e1 | (have := e2 (by omega); omega)
   ·refine B8 rfl ?_; exact ⟨by omega, fun j hj => u2 j (by omega)⟩
theorem r32 (G : Grp) (hb : TBs 1048576 G.T) : Pure En 32 [.agg G.T] [.one (.bool (decide G.OK))] := by
 obtain ⟨hF, hR0, hR, hW, hS⟩ := Grp.sm hb
 have hl1 : (G.fa.map iT).length = G.fa.length := List.length_map ..
 have hl2 : (G.rs.map Rep.T).length = G.rs.length := List.length_map ..
 have hl3 : (G.wi.map Pc.T).length = G.wi.length := List.length_map ..
 have hl4 : (G.se.map Msg.T).length = G.se.length := List.length_map ..
 refine Pure.of_ev (st := []) Tryz.func32 rfl kb ?_
 refine A2 ?_ (by exact Q0) (by exact Q2)
 refine B3 (s49 G.nd) rfl j2 ?_ ?_ <;> intro h1_2
 ·refine A2 ?_ (by exact Q0) (by exact Q2)
  refine A2 ?_ (by exact Q0) (by exact Q2)
  refine B3 (r92 G.nd h1_2 G.fa false hF) rfl j2 ?_ ?_ <;> intro h1_9
  ·refine A2 ?_ (by exact Q0) (by exact Q2)
   refine A2 ?_ (by exact Q0) (by exact Q2)
   refine br ?_ ?_ <;> intro h1_18
   ·refine B0 rfl ?_; rintro ⟨⟨q1, q2, q3, q4, q5⟩, _⟩; first | exact h1_2 q1 | exact h1_9 q2 | omega
   ·refine A2 ?_ (by exact Q0) (by exact Q2)
    refine br ?_ ?_ <;> intro h1_24
    ·refine B0 rfl ?_; rintro ⟨⟨q1, q2, q3, q4, q5⟩, _⟩; first | exact h1_2 q1 | exact h1_9 q2 | omega
    ·refine A2 ?_ (by exact Q0) (by exact Q2)
     refine br ?_ ?_ <;> intro h1_30
     ·refine B0 rfl ?_; rintro ⟨⟨q1, q2, q3, q4, q5⟩, _⟩; first | exact h1_2 q1 | exact h1_9 q2 | omega
     ·refine B2 (fun (i : Nat) => [.unk, .ptr 0 0 0, .unk, .int .i64 i]) (fun (i : Nat) => hp [(0, ⟨[[.int .i64 G.nd, .sl false false (G.fa.map iT), .sl false false (G.rs.map Rep.T), .sl false false (G.wi.map Pc.T), .sl false false (G.se.map Msg.T)]], 5, 67⟩)]) (fun (i : Nat) => 1) (fun (i : Nat) => i ≤ G.rs.length ∧ ∀ j, j < i → rsOK G.nd G.rs j) (fun (i : Nat) => G.rs.length - i) 0 ?_ ?_ ?_ ?_ ?_
      ·exact ⟨Nat.zero_le _, D8⟩
      ·(repeat first | exact LE.nil _ | refine LE.unk _ _ ?_ | refine LE.eq _ _ _ rfl ?_)
      ·(repeat first | exact A4 | (refine A5 ?_ ?_; exact E3))
      ·exact Nat.le_refl _
      intro i hI ih
      obtain ⟨u0, u2⟩ := hI
      refine A6 (st := []) ?_
      refine A2 ?_ (by exact Q0) (by exact Q2)
      refine br ?_ ?_ <;> intro h4_3
      ·refine A2 ?_ (by exact Q0) (by exact Q2)
       (refine A9 (C4 (by first | rfl | assumption | exact Q28) rfl ?_))
       refine br ?_ ?_ <;> intro h6_7
       ·refine B0 rfl ?_; rintro ⟨_, q2, _⟩; obtain ⟨e1, e2, e3⟩ := q2 i (by omega); first | omega | exact h6_25 e3
       ·refine A2 ?_ (by exact Q0) (by exact Q2)
        (refine A9 (C4 (by first | rfl | assumption | exact Q28) rfl ?_))
        refine A2 ?_ (by exact Q0) (by exact Q2)
        refine br ?_ ?_ <;> intro h6_17
        ·refine B0 rfl ?_; rintro ⟨_, q2, _⟩; obtain ⟨e1, e2, e3⟩ := q2 i (by omega); first | omega | exact h6_25 e3
        ·refine A2 ?_ (by exact Q0) (by exact Q2)
         (refine A9 (C4 (by first | rfl | assumption | exact Q28) rfl ?_))
         refine B3 (r27 (G.rs.getD i Rep0) (hR i (by omega))) rfl j2 ?_ ?_ <;> intro h6_25
         ·refine sd ⟨by exact F5, by exact F5⟩ ?_
          exact C6 (ih (i + 1) ⟨by omega, D0 u2 ⟨by omega, by omega, h6_25⟩⟩ (by omega)) (by (repeat first | exact LE.nil _ | refine LE.unk _ _ ?_ | refine LE.eq _ _ _ rfl ?_)) (by (repeat first | exact A4 | (refine A5 ?_ ?_; exact E3))) (Nat.le_refl _)
         ·refine B0 rfl ?_; rintro ⟨_, q2, _⟩; obtain ⟨e1, e2, e3⟩ := q2 i (by omega); first | omega | exact h6_25 e3
      ·refine B2 (fun (i2 : Nat) => [.unk, .ptr 0 0 0, .unk, .unk, .int .i64 i2]) (fun (i2 : Nat) => hp [(0, ⟨[[.int .i64 G.nd, .sl false false (G.fa.map iT), .sl false false (G.rs.map Rep.T), .sl false false (G.wi.map Pc.T), .sl false false (G.se.map Msg.T)]], 5, 67⟩)]) (fun (i2 : Nat) => 1) (fun (i2 : Nat) => i2 ≤ G.wi.length ∧ ∀ j, j < i2 → pcOK G.nd (G.wi.getD j Pc0)) (fun (i2 : Nat) => G.wi.length - i2) 0 ?_ ?_ ?_ ?_ ?_
       ·exact ⟨Nat.zero_le _, D8⟩
       ·(repeat first | exact LE.nil _ | refine LE.unk _ _ ?_ | refine LE.eq _ _ _ rfl ?_)
       ·(repeat first | exact A4 | (refine A5 ?_ ?_; exact E3))
       ·exact Nat.le_refl _
       intro i2 hI ih
       obtain ⟨v0, v2⟩ := hI
       refine A6 (st := []) ?_
       refine A2 ?_ (by exact Q0) (by exact Q2)
       refine br ?_ ?_ <;> intro h9_4
       ·refine A2 ?_ (by exact Q0) (by exact Q2)
        (refine A9 (C4 (by first | rfl | assumption | exact Q28) rfl ?_))
        refine A2 ?_ (by exact Q0) (by exact Q2)
        refine sd ⟨by exact F5, by exact F5⟩ ?_
        refine B3 (s50 _ _ _) rfl j2 ?_ ?_ <;> intro h11_9
        ·refine A2 ?_ (by exact Q0) (by exact Q2)
         refine A2 ?_ (by exact Q0) (by exact Q2)
         (refine A9 (C4 (by first | rfl | assumption | exact Q28) rfl ?_))
         refine B3 (r93 G.nd (G.wi.getD i2 Pc0).ms) rfl j2 ?_ ?_ <;> intro h11_20
         ·refine sd ⟨by exact F5, by exact F5⟩ ?_
          exact C6 (ih (i2 + 1) ⟨by omega, D0 v2 ⟨h11_9, h11_20⟩⟩ (by omega)) (by (repeat first | exact LE.nil _ | refine LE.unk _ _ ?_ | refine LE.eq _ _ _ rfl ?_)) (by (repeat first | exact A4 | (refine A5 ?_ ?_; exact E3))) (Nat.le_refl _)
         ·refine B0 rfl ?_; rintro ⟨_, _, q3, _⟩; obtain ⟨e1, e2⟩ := q3 i2 (by omega); first | exact h11_9 e1 | exact h11_20 e2
        ·refine B0 rfl ?_; rintro ⟨_, _, q3, _⟩; obtain ⟨e1, e2⟩ := q3 i2 (by omega); first | exact h11_9 e1 | exact h11_20 e2
       ·refine B2 (fun (i3 : Nat) => [.unk, .ptr 0 0 0, .unk, .unk, .unk, .int .i64 i3]) (fun (i3 : Nat) => hp [(0, ⟨[[.int .i64 G.nd, .sl false false (G.fa.map iT), .sl false false (G.rs.map Rep.T), .sl false false (G.wi.map Pc.T), .sl false false (G.se.map Msg.T)]], 5, 67⟩)]) (fun (i3 : Nat) => 1) (fun (i3 : Nat) => i3 ≤ G.se.length ∧ ∀ j, j < i3 → sgM G.nd (G.se.getD j Msg0)) (fun (i3 : Nat) => G.se.length - i3) 0 ?_ ?_ ?_ ?_ ?_
        ·exact ⟨Nat.zero_le _, D8⟩
        ·(repeat first | exact LE.nil _ | refine LE.unk _ _ ?_ | refine LE.eq _ _ _ rfl ?_)
        ·(repeat first | exact A4 | (refine A5 ?_ ?_; exact E3))
        ·exact Nat.le_refl _
        intro i3 hI ih
        obtain ⟨w0, w2⟩ := hI
        refine A6 (st := []) ?_
        refine A2 ?_ (by exact Q0) (by exact Q2)
        refine br ?_ ?_ <;> intro h14_4
        ·refine A2 ?_ (by exact Q0) (by exact Q2)
         refine A2 ?_ (by exact Q0) (by exact Q2)
         (refine A9 (C4 (by first | rfl | assumption | exact Q28) rfl ?_))
         refine B3 (r93 G.nd (G.se.getD i3 Msg0)) rfl j2 ?_ ?_ <;> intro h16_7
         ·refine sd ⟨by exact F5, by exact F5⟩ ?_
          exact C6 (ih (i3 + 1) ⟨by omega, D0 w2 h16_7⟩ (by omega)) (by (repeat first | exact LE.nil _ | refine LE.unk _ _ ?_ | refine LE.eq _ _ _ rfl ?_)) (by (repeat first | exact A4 | (refine A5 ?_ ?_; exact E3))) (Nat.le_refl _)
         ·refine B0 rfl ?_; rintro ⟨_, _, _, q4⟩; exact h16_7 (q4 i3 (by omega))
        ·refine B8 rfl ?_; exact ⟨⟨h1_2, h1_9, by omega, by omega, by omega⟩, fun j hj => u2 j (by omega), fun j hj => v2 j (by omega), fun j hj => w2 j (by omega)⟩
  ·refine B0 rfl ?_; rintro ⟨⟨q1, q2, q3, q4, q5⟩, _⟩; first | exact h1_2 q1 | exact h1_9 q2 | omega
 ·refine B0 rfl ?_; rintro ⟨⟨q1, q2, q3, q4, q5⟩, _⟩; first | exact h1_2 q1 | exact h1_9 q2 | omega
open Go.V
set_option linter.unusedVariables false
set_option linter.unusedSimpArgs false
set_option maxRecDepth 20000
set_option maxHeartbeats 4000000
theorem lgG_get {G : Grp} {R : Rep} (h : lgG G R) {k : Nat} (hk : k < R.lg.length) : R.lg.getD k (⟨#[]⟩ : ByteArray) = (lgO G).getD k ⟨#[]⟩ := by
 unfold lgG at h
 rw [h]
 simp [List.getElem?_take, hk]
theorem lgG_of {G : Grp} {R : Rep} (hl : R.lg.length ≤ (lgO G).length) (h : ∀ q, q < R.lg.length → R.lg.getD q (⟨#[]⟩ : ByteArray) = (lgO G).getD q ⟨#[]⟩) : lgG G R := by
 unfold lgG
 refine eqOfGet (by rw [List.length_take]; omega) fun j hj => ?_
 rw [h j hj]
 simp [List.getElem?_take, hj]
theorem lgS_le {G : Grp} (h : ∀ i, i < G.rs.length → (G.rs.getD i Rep0).lg.length ≤ 1048576) : ∀ i, (lgS G i).length ≤ 1048576
 | 0 => Nat.zero_le _
 | i + 1 => by
  by_cases q : ¬ isF G.fa (i : Int) ∧ (G.rs.getD i Rep0).lg.length > (lgS G i).length
  ·rw [T9 q.1 q.2]
   rcases Nat.lt_or_ge i G.rs.length with z | z
   ·exact h i z
   ·rw [show G.rs.getD i Rep0 = Rep0 by simp [z]]; exact Nat.zero_le _
  ·rw [U0 q]; exact lgS_le h i
theorem lg_sm {G : Grp} (hR : ∀ i, i < G.rs.length → TBs 1048576 (G.rs.getD i Rep0).T) : ∀ i, i < G.rs.length → (G.rs.getD i Rep0).lg.length ≤ 1048576 := fun i hi => (Rep.sm (hR i hi)).2.2.2.2.2.1
theorem ly_sm {G : Grp} (h : ∀ i, i < G.rs.length → (G.rs.getD i Rep0).lg.length ≤ 1048576) {i : Nat} (hi : i < (ly G).length) : ((ly G).getD i Rep0).lg.length ≤ 1048576 ∧ ((ly G).getD i Rep0).lg.length ≤ (lgO G).length := by
 have hm : (ly G).getD i Rep0 ∈ ly G := by rw [show (ly G).getD i Rep0 = (ly G)[i] by simp [hi]]; exact List.getElem_mem hi
 obtain ⟨j, h1, h2, e⟩ := (N8 G _ _).1 hm
 exact ⟨by rw [e]; exact h j h1, ly_le hm⟩
theorem o173n (G : Grp) (hS : ∀ {i : Nat}, i < (ly G).length → ((ly G).getD i Rep0).lg.length ≤ 1048576 ∧ ((ly G).getD i Rep0).lg.length ≤ (lgO G).length) (hz : lgO G = []) (hL : (ly G).length ≤ 1048576) {id vb : Nat} {h : Heap} {n : Nat} (hid : id < n) (hh : h id = some ⟨[[.nsl]], 1, 24⟩) (hvb : vb < n) (hv : h vb = some ⟨(ly G).map repV, 8, 54⟩) : V.Open En 173 [.view vb 0 (ly G).length, .clo 108 [.ptr id 0 0]] h n (.int .i64 (pix (fun R => ¬ lgG G R) (ly G) 0)) [] (n + (ly G).length) := by
 refine V.Open.of_ev (st := []) Tryz.func173 rfl kb ?_
 refine B2 (fun (a : Nat × Nat) => [.view vb 0 (ly G).length, .clo 108 [.ptr id 0 0], .unk, .unk, .unk, .unk, .unk, .int .i64 ((ly G).length : Int), .int .i64 a.1]) (fun (a : Nat × Nat) => h) (fun (a : Nat × Nat) => a.2) (fun (a : Nat × Nat) => a.1 ≤ (ly G).length ∧ pix (fun R => ¬ lgG G R) ((ly G).drop a.1) a.1 = pix (fun R => ¬ lgG G R) (ly G) 0 ∧ n + a.1 = a.2) (fun (a : Nat × Nat) => (ly G).length - a.1) (0, n) ?_ ?_ ?_ ?_ ?_
 ·exact ⟨Nat.zero_le _, rfl, rfl⟩
 ·(repeat first | exact LE.nil _ | refine LE.unk _ _ ?_ | refine LE.eq _ _ _ rfl ?_)
 ·exact LessH.refl _
 ·exact Nat.le_refl _
 intro ⟨i, m⟩ hI ih
 obtain ⟨q0, q1, q2⟩ := hI
 dsimp only at q0 q1 q2 ⊢
 refine A6 (st := []) ?_
 refine br ?_ ?_ <;> intro h2_0
 ·(refine F6 (by exact Q6) ⟨rfl, A9 ?_⟩)
  (apply C7 (vs := [.int _ _, .int _ _, .int _ _, .bool _, _, _, _, _]) j2; exact Q6; (first | exact N0 repV Rep0 (k := i) (by omega) | rfl); rfl; exact kb; rfl)
  refine J9 (o108n G ((ly G).getD i Rep0) (hS (by omega)).1 (hS (by omega)).2 hz (n := m) (by omega) hh) rfl j2 ?_ ?_
  all_goals intro h4_5
  ·rw [← q1, pix_y (d := Rep0) (L := ly G) (i := i) (by omega) (of_decide_eq_true h4_5)]; exact fiO rfl rfl (fun _ _ _ e => e) (by omega)
  ·refine A9 ?_
   have e1 := (pix_n (P := fun R => ¬ lgG G R) (d := Rep0) (L := ly G) (i := i) (by omega) (of_decide_eq_false h4_5)).symm.trans q1
   exact C6 (ih (i + 1, m + 1) ⟨by dsimp only; omega, e1, by dsimp only; omega⟩ (by dsimp only; omega)) (by (repeat first | exact LE.nil _ | refine LE.unk _ _ ?_ | refine LE.eq _ _ _ rfl ?_)) (LessH.refl _) (Nat.le_refl _)
 ·rw [← q1, U9 (L := ly G) (i := i) (by omega)]; exact fiO rfl rfl (fun _ _ _ e => e) (by omega)
theorem o107n (G : Grp) (hS : ∀ {i : Nat}, i < (ly G).length → ((ly G).getD i Rep0).lg.length ≤ 1048576 ∧ ((ly G).getD i Rep0).lg.length ≤ (lgO G).length) (hz : lgO G = []) (hL : (ly G).length ≤ 1048576) {id vb : Nat} {h : Heap} {n : Nat} (hid : id < n) (hh : h id = some ⟨[[.nsl]], 1, 24⟩) (hvb : vb < n) (hv : h vb = some ⟨(ly G).map repV, 8, 54⟩) : V.Open En 107 [.view vb 0 (ly G).length, .clo 108 [.ptr id 0 0]] h n (.bool (decide (anyP (fun R => ¬ lgG G R) (ly G)))) [] (n + (ly G).length) := by
 refine V.Open.of_ev (st := []) Tryz.func107 rfl kb ?_
 refine K4 (o173n G hS hz hL hid hh hvb hv) rfl rfl rfl ?_
 refine br ?_ ?_ <;> intro h1_3
 ·first
  | (rw [decide_eq_true (show anyP (fun R => ¬ lgG G R) (ly G) from (D6 (P := fun R => ¬ lgG G R) (ly G) 0).1 (by omega))]; exact fiO rfl rfl (fun _ _ _ e => e) (Nat.le_refl _))
  | (rw [decide_eq_false (show ¬ anyP (fun R => ¬ lgG G R) (ly G) from fun q => by have := (D6 (P := fun R => ¬ lgG G R) (ly G) 0).2 q; omega)]; exact fiO rfl rfl (fun _ _ _ e => e) (Nat.le_refl _))
 ·first
  | (rw [decide_eq_true (show anyP (fun R => ¬ lgG G R) (ly G) from (D6 (P := fun R => ¬ lgG G R) (ly G) 0).1 (by omega))]; exact fiO rfl rfl (fun _ _ _ e => e) (Nat.le_refl _))
  | (rw [decide_eq_false (show ¬ anyP (fun R => ¬ lgG G R) (ly G) from fun q => by have := (D6 (P := fun R => ¬ lgG G R) (ly G) 0).2 q; omega)]; exact fiO rfl rfl (fun _ _ _ e => e) (Nat.le_refl _))
theorem o173s (G : Grp) (hS : ∀ {i : Nat}, i < (ly G).length → ((ly G).getD i Rep0).lg.length ≤ 1048576 ∧ ((ly G).getD i Rep0).lg.length ≤ (lgO G).length) (hz : lgO G ≠ []) (hL : (ly G).length ≤ 1048576) {id vb : Nat} {h : Heap} {n : Nat} (hid : id < n) (hh : h id = some ⟨[[.sl false false ((lgO G).map tT)]], 1, 24⟩) (hvb : vb < n) (hv : h vb = some ⟨(ly G).map repV, 8, 54⟩) : V.Open En 173 [.view vb 0 (ly G).length, .clo 108 [.ptr id 0 0]] h n (.int .i64 (pix (fun R => ¬ lgG G R) (ly G) 0)) [] (n + (ly G).length) := by
 refine V.Open.of_ev (st := []) Tryz.func173 rfl kb ?_
 refine B2 (fun (a : Nat × Nat) => [.view vb 0 (ly G).length, .clo 108 [.ptr id 0 0], .unk, .unk, .unk, .unk, .unk, .int .i64 ((ly G).length : Int), .int .i64 a.1]) (fun (a : Nat × Nat) => h) (fun (a : Nat × Nat) => a.2) (fun (a : Nat × Nat) => a.1 ≤ (ly G).length ∧ pix (fun R => ¬ lgG G R) ((ly G).drop a.1) a.1 = pix (fun R => ¬ lgG G R) (ly G) 0 ∧ n + a.1 = a.2) (fun (a : Nat × Nat) => (ly G).length - a.1) (0, n) ?_ ?_ ?_ ?_ ?_
 ·exact ⟨Nat.zero_le _, rfl, rfl⟩
 ·(repeat first | exact LE.nil _ | refine LE.unk _ _ ?_ | refine LE.eq _ _ _ rfl ?_)
 ·exact LessH.refl _
 ·exact Nat.le_refl _
 intro ⟨i, m⟩ hI ih
 obtain ⟨q0, q1, q2⟩ := hI
 dsimp only at q0 q1 q2 ⊢
 refine A6 (st := []) ?_
 refine br ?_ ?_ <;> intro h2_0
 ·(refine F6 (by exact Q6) ⟨rfl, A9 ?_⟩)
  (apply C7 (vs := [.int _ _, .int _ _, .int _ _, .bool _, _, _, _, _]) j2; exact Q6; (first | exact N0 repV Rep0 (k := i) (by omega) | rfl); rfl; exact kb; rfl)
  refine J9 (o108s G ((ly G).getD i Rep0) (hS (by omega)).1 (hS (by omega)).2 hz (n := m) (by omega) hh) rfl j2 ?_ ?_
  all_goals intro h4_5
  ·rw [← q1, pix_y (d := Rep0) (L := ly G) (i := i) (by omega) (of_decide_eq_true h4_5)]; exact fiO rfl rfl (fun _ _ _ e => e) (by omega)
  ·refine A9 ?_
   have e1 := (pix_n (P := fun R => ¬ lgG G R) (d := Rep0) (L := ly G) (i := i) (by omega) (of_decide_eq_false h4_5)).symm.trans q1
   exact C6 (ih (i + 1, m + 1) ⟨by dsimp only; omega, e1, by dsimp only; omega⟩ (by dsimp only; omega)) (by (repeat first | exact LE.nil _ | refine LE.unk _ _ ?_ | refine LE.eq _ _ _ rfl ?_)) (LessH.refl _) (Nat.le_refl _)
 ·rw [← q1, U9 (L := ly G) (i := i) (by omega)]; exact fiO rfl rfl (fun _ _ _ e => e) (by omega)
theorem o107s (G : Grp) (hS : ∀ {i : Nat}, i < (ly G).length → ((ly G).getD i Rep0).lg.length ≤ 1048576 ∧ ((ly G).getD i Rep0).lg.length ≤ (lgO G).length) (hz : lgO G ≠ []) (hL : (ly G).length ≤ 1048576) {id vb : Nat} {h : Heap} {n : Nat} (hid : id < n) (hh : h id = some ⟨[[.sl false false ((lgO G).map tT)]], 1, 24⟩) (hvb : vb < n) (hv : h vb = some ⟨(ly G).map repV, 8, 54⟩) : V.Open En 107 [.view vb 0 (ly G).length, .clo 108 [.ptr id 0 0]] h n (.bool (decide (anyP (fun R => ¬ lgG G R) (ly G)))) [] (n + (ly G).length) := by
 refine V.Open.of_ev (st := []) Tryz.func107 rfl kb ?_
 refine K4 (o173s G hS hz hL hid hh hvb hv) rfl rfl rfl ?_
 refine br ?_ ?_ <;> intro h1_3
 ·first
  | (rw [decide_eq_true (show anyP (fun R => ¬ lgG G R) (ly G) from (D6 (P := fun R => ¬ lgG G R) (ly G) 0).1 (by omega))]; exact fiO rfl rfl (fun _ _ _ e => e) (Nat.le_refl _))
  | (rw [decide_eq_false (show ¬ anyP (fun R => ¬ lgG G R) (ly G) from fun q => by have := (D6 (P := fun R => ¬ lgG G R) (ly G) 0).2 q; omega)]; exact fiO rfl rfl (fun _ _ _ e => e) (Nat.le_refl _))
 ·first
  | (rw [decide_eq_true (show anyP (fun R => ¬ lgG G R) (ly G) from (D6 (P := fun R => ¬ lgG G R) (ly G) 0).1 (by omega))]; exact fiO rfl rfl (fun _ _ _ e => e) (Nat.le_refl _))
  | (rw [decide_eq_false (show ¬ anyP (fun R => ¬ lgG G R) (ly G) from fun q => by have := (D6 (P := fun R => ¬ lgG G R) (ly G) 0).2 q; omega)]; exact fiO rfl rfl (fun _ _ _ e => e) (Nat.le_refl _))
theorem s39 (G : Grp) (hb : TBs 1048576 G.T) : Pure En 39 [.agg G.T] [.one (.bool (decide (G.OK ∧ agr G))), .one (.int .i64 (if G.OK then 0 else 1))] := by
 obtain ⟨hF, hR0, hR, hW, hS9⟩ := Grp.sm hb
 have hlg := lg_sm hR
 have hly : (ly G).length ≤ G.rs.length := O7 G G.rs.length
 by_cases hz : lgO G = []
 ·have O106 : ∀ (hne : ∀ i, G.rs.length ≤ i → lyL G i ≠ []) {id : Nat} {h : Heap} {n : Nat} (hid : id < n) (hh : h id = some ⟨[[.int .i64 G.nd, .sl false false (G.fa.map iT), .sl false false (G.rs.map Rep.T), .sl false false (G.wi.map Pc.T), .sl false false (G.se.map Msg.T)]], 5, 67⟩), ∃ m : Nat, n ≤ m ∧ V.Open En 106 [.ptr id 0 0] h n .nsl [] m := fun hne {id h n} hid hh => by have := o106 G hF hR0 hne hid hh; rw [bO_0 hz] at this; exact this
  refine Pure.of_ev (st := []) Tryz.func39 rfl kb ?_
  (apply C7 (vs := [.int _ _, _, _, _, _]) j2; exact Q6; exact Q2; rfl; exact kb; rfl)
  refine B3 (s34 G hb) rfl j2 ?_ ?_ <;> intro h1_1
  ·refine eopX (O106 (ly_ne h1_1) (id := 0) ?_ ?_) rfl j2 ?_
   ·(first | omega | assumption | exact Q6)
   ·(first | omega | assumption | exact Q6)
   rintro m1 h3_0
   try dsimp only at h3_0
   (apply est (u := .nsl) j3; exact Q6; exact Q2; exact j4; exact kb; rfl)
   refine eopX (o104 G hF hR0 (ly_ne h1_1) (id := 0) ?_ ?_) rfl j2 ?_
   ·(first | omega | assumption | exact Q6)
   ·(first | omega | assumption | exact Q6)
   rintro ⟨b, m2⟩ h4_0
   try dsimp only at h4_0
   refine J9 (o107n G (ly_sm hlg) hz (by omega) (id := m1) (vb := b) ?_ ?_ ?_ ?_) rfl j2 ?_ ?_
   ·(first | omega | assumption | exact Q6)
   ·(first | omega | assumption | exact Q6)
   ·(first | omega | assumption | exact Q6)
   ·(first | omega | assumption | exact Q6)
   all_goals intro h4_2
   ·first | (rw [decide_eq_false (fun q : G.OK ∧ agr G => K5.1 q.2 (of_decide_eq_true h4_2)), if_pos h1_1]; exact B6 rfl rfl) | (rw [decide_eq_true (show G.OK ∧ agr G from ⟨h1_1, K5.2 (of_decide_eq_false h4_2)⟩), if_pos h1_1]; exact B6 rfl rfl)
   ·first | (rw [decide_eq_false (fun q : G.OK ∧ agr G => K5.1 q.2 (of_decide_eq_true h4_2)), if_pos h1_1]; exact B6 rfl rfl) | (rw [decide_eq_true (show G.OK ∧ agr G from ⟨h1_1, K5.2 (of_decide_eq_false h4_2)⟩), if_pos h1_1]; exact B6 rfl rfl)
  ·rw [decide_eq_false (fun q => h1_1 q.1), if_neg h1_1]; exact B6 rfl rfl
 ·have O106 : ∀ (hne : ∀ i, G.rs.length ≤ i → lyL G i ≠ []) {id : Nat} {h : Heap} {n : Nat} (hid : id < n) (hh : h id = some ⟨[[.int .i64 G.nd, .sl false false (G.fa.map iT), .sl false false (G.rs.map Rep.T), .sl false false (G.wi.map Pc.T), .sl false false (G.se.map Msg.T)]], 5, 67⟩), ∃ m : Nat, n ≤ m ∧ V.Open En 106 [.ptr id 0 0] h n (.sl false false ((lgO G).map tT)) [] m := fun hne {id h n} hid hh => by have := o106 G hF hR0 hne hid hh; rw [bO_1 hz] at this; exact this
  refine Pure.of_ev (st := []) Tryz.func39 rfl kb ?_
  (apply C7 (vs := [.int _ _, _, _, _, _]) j2; exact Q6; exact Q2; rfl; exact kb; rfl)
  refine B3 (s34 G hb) rfl j2 ?_ ?_ <;> intro h1_1
  ·refine eopX (O106 (ly_ne h1_1) (id := 0) ?_ ?_) rfl j2 ?_
   ·(first | omega | assumption | exact Q6)
   ·(first | omega | assumption | exact Q6)
   rintro m1 h3_0
   try dsimp only at h3_0
   (apply est (u := .sl _ _ _) j3; exact Q6; exact Q2; exact j4; exact kb; rfl)
   refine eopX (o104 G hF hR0 (ly_ne h1_1) (id := 0) ?_ ?_) rfl j2 ?_
   ·(first | omega | assumption | exact Q6)
   ·(first | omega | assumption | exact Q6)
   rintro ⟨b, m2⟩ h4_0
   try dsimp only at h4_0
   refine J9 (o107s G (ly_sm hlg) hz (by omega) (id := m1) (vb := b) ?_ ?_ ?_ ?_) rfl j2 ?_ ?_
   ·(first | omega | assumption | exact Q6)
   ·(first | omega | assumption | exact Q6)
   ·(first | omega | assumption | exact Q6)
   ·(first | omega | assumption | exact Q6)
   all_goals intro h4_2
   ·first | (rw [decide_eq_false (fun q : G.OK ∧ agr G => K5.1 q.2 (of_decide_eq_true h4_2)), if_pos h1_1]; exact B6 rfl rfl) | (rw [decide_eq_true (show G.OK ∧ agr G from ⟨h1_1, K5.2 (of_decide_eq_false h4_2)⟩), if_pos h1_1]; exact B6 rfl rfl)
   ·first | (rw [decide_eq_false (fun q : G.OK ∧ agr G => K5.1 q.2 (of_decide_eq_true h4_2)), if_pos h1_1]; exact B6 rfl rfl) | (rw [decide_eq_true (show G.OK ∧ agr G from ⟨h1_1, K5.2 (of_decide_eq_false h4_2)⟩), if_pos h1_1]; exact B6 rfl rfl)
  ·rw [decide_eq_false (fun q => h1_1 q.1), if_neg h1_1]; exact B6 rfl rfl
theorem r38 (G : Grp) (hb : TBs 1048576 G.T) : Pure En 38 [.agg G.T] [.one (.bool (decide (G.OK ∧ agr G))), .one (.int .i64 (if G.OK then 0 else 1))] := by
 obtain ⟨hF, hR0, hR, hW, hS9⟩ := Grp.sm hb
 have hlg := lg_sm hR
 have hly : (ly G).length ≤ G.rs.length := O7 G G.rs.length
 have hl : (G.rs.map Rep.T).length = G.rs.length := List.length_map ..
 refine Pure.of_ev (st := []) Tryz.func38 rfl kb ?_
 (apply C7 (vs := [.int _ _, _, _, _, _]) j2; exact Q0; exact Q2; rfl; exact kb; rfl)
 refine B3 (r32 G hb) rfl j2 ?_ ?_ <;> intro h1_1
 ·(apply C7 (vs := [.int _ _, _, _, _, _]) j2; exact Q0; exact Q2; rfl; exact kb; rfl)
  refine C1 (r105 G hF h1_1.1.2.2.1 hR0 (lgS_le hlg)) rfl rfl rfl ?_
  refine B2 (fun (a : Nat) => [.unk, .ptr 0 0 0, .unk, .unk, .sl true false ((lgO G).map tT), .int .i64 a]) (fun (a : Nat) => hp [(0, ⟨[[.int .i64 G.nd, .sl false false (G.fa.map iT), .sl false false (G.rs.map Rep.T), .sl false false (G.wi.map Pc.T), .sl false false (G.se.map Msg.T)]], 5, 67⟩)]) (fun (a : Nat) => 1) (fun (a : Nat) => a ≤ G.rs.length ∧ ∀ j, j < a → ¬ isF G.fa (j : Int) → lgG G (G.rs.getD j Rep0)) (fun (a : Nat) => G.rs.length - a) 0 ?_ ?_ ?_ ?_ ?_
  ·exact ⟨Nat.zero_le _, D8⟩
  ·(repeat first | exact LE.nil _ | refine LE.unk _ _ ?_ | refine LE.eq _ _ _ rfl ?_)
  ·(repeat first | exact A4 | (refine A5 ?_ ?_; exact E3))
  ·exact Nat.le_refl _
  intro i hI ih
  obtain ⟨u0, u2⟩ := hI
  have ihO := ih
  have hnd := h1_1.1.2.2.1
  have hl5 : ((G.rs.getD i Rep0).lg.map tT).length = (G.rs.getD i Rep0).lg.length := List.length_map ..
  refine A6 (st := []) ?_
  refine A2 ?_ (by exact Q0) (by exact Q2)
  refine br ?_ ?_ <;> intro h5_3
  ·refine A2 ?_ (by exact Q0) (by exact Q2)
   refine B3 (r103 G.fa (i : Int) false hF) rfl j2 ?_ ?_ <;> intro h7_3
   ·refine sd ⟨by (first | omega | assumption | (rw [List.length_map]; omega)), by (first | omega | assumption | (rw [List.length_map]; omega))⟩ ?_
    first | exact C6 (ihO (i + 1) ⟨by omega, D0 u2 (fun q => absurd h7_3 q)⟩ (by omega)) (by (repeat first | exact LE.nil _ | refine LE.unk _ _ ?_ | refine LE.eq _ _ _ rfl ?_)) (by (repeat first | exact A4 | (refine A5 ?_ ?_; exact E3))) (Nat.le_refl _) | exact C6 (ihO (i + 1) ⟨by omega, D0 u2 (fun _ => lgG_of hle fun q hq => v2 q (by omega))⟩ (by omega)) (by (repeat first | exact LE.nil _ | refine LE.unk _ _ ?_ | refine LE.eq _ _ _ rfl ?_)) (by (repeat first | exact A4 | (refine A5 ?_ ?_; exact E3))) (Nat.le_refl _)
   ·refine A2 ?_ (by exact Q0) (by exact Q2)
    (refine sd (by (first | omega | assumption | (rw [List.length_map]; omega))) (C4 (by first | rfl | assumption | (first | exact A7 Rep.T Rep0 (k := i) (by omega) | exact A7 tT ⟨#[]⟩ (k := k) (by omega))) rfl ?_))
    have hlo : (lgO G).length ≤ 1048576 := by rw [X1]; exact lgS_le hlg _
    have hle : (G.rs.getD i Rep0).lg.length ≤ (lgO G).length := by rw [X1]; exact lgS_ge G _ i (by omega) h7_3
    have hl6 : ((lgO G).map tT).length = (lgO G).length := List.length_map ..
    refine B2 (fun (k : Nat) => [.unk, .ptr 0 0 0, .unk, .unk, .sl true false ((lgO G).map tT), .int .i64 i, .sl false false ((G.rs.getD i Rep0).lg.map tT), .int .i64 k]) (fun (k : Nat) => hp [(0, ⟨[[.int .i64 G.nd, .sl false false (G.fa.map iT), .sl false false (G.rs.map Rep.T), .sl false false (G.wi.map Pc.T), .sl false false (G.se.map Msg.T)]], 5, 67⟩)]) (fun (k : Nat) => 1) (fun (k : Nat) => k ≤ (G.rs.getD i Rep0).lg.length ∧ ∀ q, q < k → (G.rs.getD i Rep0).lg.getD q (⟨#[]⟩ : ByteArray) = (lgO G).getD q ⟨#[]⟩) (fun (k : Nat) => (G.rs.getD i Rep0).lg.length - k) 0 ?_ ?_ ?_ ?_ ?_
    ·exact ⟨Nat.zero_le _, D8⟩
    ·(repeat first | exact LE.nil _ | refine LE.unk _ _ ?_ | refine LE.eq _ _ _ rfl ?_)
    ·(repeat first | exact A4 | (refine A5 ?_ ?_; exact E3))
    ·exact Nat.le_refl _
    intro k hI ih
    obtain ⟨v0, v2⟩ := hI
    refine A6 (st := []) ?_
    refine br ?_ ?_ <;> intro h10_3
    ·(refine sd (by (first | omega | assumption | (rw [List.length_map]; omega))) (C4 (by first | rfl | assumption | (first | exact A7 Rep.T Rep0 (k := i) (by omega) | exact A7 tT ⟨#[]⟩ (k := k) (by omega))) rfl ?_))
     (refine sd (by (first | omega | assumption | (rw [List.length_map]; omega))) (C4 (by first | rfl | assumption | (first | exact A7 Rep.T Rep0 (k := i) (by omega) | exact A7 tT ⟨#[]⟩ (k := k) (by omega))) rfl ?_))
     refine br ?_ ?_ <;> intro h12_8
     ·rw [decide_eq_false (show ¬ (G.OK ∧ agr G) from fun q => h12_8 (lgG_get (q.2 i (by omega) h7_3) (by omega))), if_pos h1_1]; exact B6 rfl rfl
     ·refine sd ⟨by (first | omega | assumption | (rw [List.length_map]; omega)), by (first | omega | assumption | (rw [List.length_map]; omega))⟩ ?_
      exact C6 (ih (k + 1) ⟨by omega, D0 v2 (Classical.not_not.1 h12_8)⟩ (by omega)) (by (repeat first | exact LE.nil _ | refine LE.unk _ _ ?_ | refine LE.eq _ _ _ rfl ?_)) (by (repeat first | exact A4 | (refine A5 ?_ ?_; exact E3))) (Nat.le_refl _)
    ·refine sd ⟨by (first | omega | assumption | (rw [List.length_map]; omega)), by (first | omega | assumption | (rw [List.length_map]; omega))⟩ ?_
     first | exact C6 (ihO (i + 1) ⟨by omega, D0 u2 (fun q => absurd h7_3 q)⟩ (by omega)) (by (repeat first | exact LE.nil _ | refine LE.unk _ _ ?_ | refine LE.eq _ _ _ rfl ?_)) (by (repeat first | exact A4 | (refine A5 ?_ ?_; exact E3))) (Nat.le_refl _) | exact C6 (ihO (i + 1) ⟨by omega, D0 u2 (fun _ => lgG_of hle fun q hq => v2 q (by omega))⟩ (by omega)) (by (repeat first | exact LE.nil _ | refine LE.unk _ _ ?_ | refine LE.eq _ _ _ rfl ?_)) (by (repeat first | exact A4 | (refine A5 ?_ ?_; exact E3))) (Nat.le_refl _)
  ·rw [decide_eq_true (show G.OK ∧ agr G from ⟨h1_1, fun j hj hf => u2 j (by omega) hf⟩), if_pos h1_1]; exact B6 rfl rfl
 ·rw [decide_eq_false (fun q => h1_1 q.1), if_neg h1_1]; exact B6 rfl rfl
theorem law8 (G : Grp) (hb : TBs 9223372036854775807 G.T) : Pure En 8 [.agg G.T] [.one (.bool true)] := by
 refine Pure.of_ev (st := []) Tryz.func8 rfl kb ?_
 (apply C7 (vs := [.int _ _, _, _, _, _]) j2; exact Q0; rfl; rfl; exact kb; rfl)
 refine H5 (lz31 G 1048576 (by omega) hb) rfl j2 ?_
 rintro x h2_2
 try dsimp only at h2_2
 have hX : 0 ≤ x → TBs 1048576 G.T := h2_2.2
 have hX1 := h2_2.1
 refine br ?_ ?_ <;> intro h3_1
 ·first | exact B6 rfl rfl | (exfalso; simp_all; done)
 ·(apply C7 (vs := [.int _ _, _, _, _, _]) j2; exact Q0; rfl; rfl; exact kb; rfl)
  refine C1 (lt33 G (hX (by omega))) rfl rfl rfl ?_
  refine C1 (r38 G (hX (by omega))) rfl rfl rfl ?_
  refine brB ?_ ?_ <;> intro h5_4
  ·(apply C7 (vs := [.int _ _, _, _, _, _]) j2; exact Q0; rfl; rfl; exact kb; rfl)
   refine C1 (lt33 G (hX (by omega))) rfl rfl rfl ?_
   (apply est (u := .agg [.int _ _, _, _, _, _]) j3; exact Q0; rfl; exact j4; exact kb; rfl)
   (apply C7 (vs := [.int _ _, _, _, _, _]) j2; exact Q0; rfl; rfl; exact kb; rfl)
   refine C1 (s39 G (hX (by omega))) rfl rfl rfl ?_
   refine brB ?_ ?_ <;> intro h7_3
   ·refine br ?_ ?_ <;> intro h8_6
    ·first | exact B6 rfl rfl | (exfalso; simp_all; done)
    ·(apply C7 (vs := [.int _ _, _, _, _, _]) j2; exact Q0; rfl; rfl; exact kb; rfl)
     (apply C7 (vs := [.int _ _, _, _, _, _]) j2; exact Q0; rfl; rfl; exact kb; rfl)
     refine C1 (lt33 G (hX (by omega))) rfl rfl rfl ?_
     refine C1 (le35 G (hX (by omega))) rfl rfl rfl ?_
     first | exact B6 rfl rfl | (exfalso; simp_all; done)
   ·first | exact B6 rfl rfl | (exfalso; simp_all; done)
  ·(apply C7 (vs := [.int _ _, _, _, _, _]) j2; exact Q0; rfl; rfl; exact kb; rfl)
   refine C1 (lt33 G (hX (by omega))) rfl rfl rfl ?_
   (apply est (u := .agg [.int _ _, _, _, _, _]) j3; exact Q0; rfl; exact j4; exact kb; rfl)
   (apply C7 (vs := [.int _ _, _, _, _, _]) j2; exact Q0; rfl; rfl; exact kb; rfl)
   refine C1 (s39 G (hX (by omega))) rfl rfl rfl ?_
   refine brB ?_ ?_ <;> intro h7_3
   ·first | exact B6 rfl rfl | (exfalso; simp_all; done)
   ·refine br ?_ ?_ <;> intro h8_6
    ·first | exact B6 rfl rfl | (exfalso; simp_all; done)
    ·(apply C7 (vs := [.int _ _, _, _, _, _]) j2; exact Q0; rfl; rfl; exact kb; rfl)
     (apply C7 (vs := [.int _ _, _, _, _, _]) j2; exact Q0; rfl; rfl; exact kb; rfl)
     refine C1 (lt33 G (hX (by omega))) rfl rfl rfl ?_
     refine C1 (le35 G (hX (by omega))) rfl rfl rfl ?_
     first | exact B6 rfl rfl | (exfalso; simp_all; done)
open Go Go.ClosedOfChecked
set_option linter.unusedVariables false
set_option maxRecDepth 20000
set_option maxHeartbeats 4000000
theorem joined_intro {P : Program} {f : FuncId} {fn : Func} {s : ChangeSpec} {c : OpenClaim} (a1 : c.wf (OpenSpec.ofChange s) = true) (a2 : laidOutB P = true) (a3 : mapsRowed P = true) (a4 : fn.params.all (P.readableRec ·) = true) (a5 : namedTie P c.named s.vars = true) (a6 : (c.stops == []) = true) (a7 : (P.stops == []) = true) (a8 : (c.knobs == []) = true) (a9 : (P.stopKnobs == []) = true) (b1 : (c.inPlace == P.inPlace f) = true) (b2 : (c.unfollowed == P.unfollowed f) = true) (b3 : (c.recurses == P.recurses f) = true) (b4 : (c.named == P.varsNamed f) = true) (b5 : (c.maps == (fn.params.toList ++ s.plain.varTypes P).any (P.mapsRec ·)) = true) (b6 : (c.ifaces == (fn.params.toList ++ s.plain.varTypes P).any (P.ifacesRec ·)) = true) (b7 : (c.mapsOut == P.mapsAmong fn.resultTypes.toList) = true) (b8 : (c.loops == (fn.params.toList ++ s.plain.varTypes P).any (P.loopsFrom ·)) = true) (b9 : (c.wideKeys == (fn.params.toList ++ s.plain.varTypes P ++ fn.resultTypes.toList).any (P.wideKeysFrom ·)) = true) (c1 : s.vars.all (P.varReadable ·) = true) (c2 : fn.resultTypes.all (fun t => P.readableRec t && decide (t < P.types.size)) = true) (c3 : (c.ifacesOut == fn.resultTypes.toList.any (P.ifacesRec ·)) = true) (c4 : (c.loopsOut == fn.resultTypes.toList.any (P.loopsFrom ·)) = true) (c5 : (c.plainKeys == P.plainKeys) = true) (c6 : c.shortTexts.isNone = true) (c7 : P.stopsHeard = true) (c8 : P.mayEnter = true) (c9 : (c.lifted == P.liftsFinal) = true) (d1 : (P.make == some c.make) = true) (d2 : (c.kinds == (if c.domain.isEmpty then [] else fn.params.toList.map fun t => match P.underlying t with | some (.int k) => some k | _ => none)) = true) (d3 : (c.pinned == c.pinnedBy) = true) (d4 : (c.veiled == (fn.params.toList ++ s.plain.varTypes P ++ fn.resultTypes.toList).any (P.veiledRec ·)) = true) (d5 : c.veiledFits P fn.params.toList (fn.params.toList ++ s.plain.varTypes P ++ fn.resultTypes.toList) = true) : joinedFacts P f fn s c = true := by
 unfold joinedFacts
 simp only [a1, a2, a3, a4, a5, a6, a7, a8, a9, b1, b2, b3, b4, b5, b6, b7, b8, b9, c1, c2, c3, c4, c5, c6, c7, c8, c9, d1, d3, d4, d5, Bool.true_and, Bool.and_true]
 exact d2
theorem jn_ty : Tryz.checked.prog.types = Tryz.checked.src.types := by kernel_rfl
theorem jn_rest : (Tryz.checked.prog.globals.all (fun g => decide (g.type < Tryz.checked.prog.types.size)) && Tryz.checked.prog.funcs.all (fun f => f.params.all fun t => decide (t < Tryz.checked.prog.types.size))) = true := by kernel_rfl
theorem jn_laid : laidOutB Tryz.checked.prog = true := laidOutB_of (allSpec_of Tryz.checked.wellFormed jn_ty) jn_rest
theorem jn_maps : mapsRowed Tryz.checked.prog = true := mapsRowed_of (allSpec_of Tryz.checked.wellFormed jn_ty)
theorem jn_keys : (false == Tryz.checked.prog.plainKeys) = true := by kernel_rfl
theorem jn_stops : (Tryz.prog.stops == []) = true := by kernel_rfl
theorem jn_knobs : (Tryz.prog.stopKnobs == []) = true := by kernel_rfl
theorem jn_heard : Tryz.prog.stopsHeard = true := by kernel_rfl
theorem jn_enter : Tryz.prog.mayEnter = true := by kernel_rfl
end Go.Proofs.YteifdelnahccjaaGreatDoor
namespace Go.Proofs.YteifdelnahccjaaGreatDoor.fnExactLogsAgree
open Go
set_option linter.unusedVariables false
set_option maxRecDepth 20000
set_option maxHeartbeats 4000000
theorem k1 : (Rows.fnExactLogsAgreeRow.inPlace == Tryz.pinned.checked.prog.inPlace 8) = true := by kernel_rfl
theorem k2 : (Rows.fnExactLogsAgreeRow.unfollowed == Tryz.pinned.checked.prog.unfollowed 8) = true := by kernel_rfl
theorem k3 : (Rows.fnExactLogsAgreeRow.recurses == Tryz.pinned.checked.prog.recurses 8) = true := by kernel_rfl
theorem k4 : (Rows.fnExactLogsAgreeRow.named == Tryz.pinned.checked.prog.varsNamed 8) = true := by kernel_rfl
theorem k5 : (Rows.fnExactLogsAgreeRow.lifted == Tryz.pinned.checked.prog.liftsFinal) = true := by kernel_rfl
theorem k6 : (Tryz.pinned.checked.prog.make == some Rows.fnExactLogsAgreeRow.make) = true := by kernel_rfl
theorem joined : joinedFacts Tryz.pinned.checked.prog 8 Tryz.f8 (OpenSpec.ofChange Rows.fnExactLogsAgreeSpec).bare Rows.fnExactLogsAgreeRow = true :=
 joined_intro (by kernel_rfl) jn_laid jn_maps (by kernel_rfl) (by kernel_rfl) (by kernel_rfl) jn_stops (by kernel_rfl) jn_knobs k1 k2 k3 k4 (by kernel_rfl) (by kernel_rfl) (by kernel_rfl) (by kernel_rfl) (by kernel_rfl)
  (by kernel_rfl) (by kernel_rfl) (by kernel_rfl) (by kernel_rfl) jn_keys (by kernel_rfl) jn_heard jn_enter k5 k6 (by kernel_rfl) (by kernel_rfl) (by kernel_rfl) (by kernel_rfl)
theorem w1 : Rows.fnExactLogsAgreeRow.wfByText (OpenSpec.ofChange Rows.fnExactLogsAgreeSpec) = true := by kernel_rfl
theorem w3 : false = Rows.fnExactLogsAgreeRow.goesBy Tryz.pinned.checked.prog := by kernel_rfl
theorem w4 : false = Tryz.pinned.checked.prog.looks [] := by kernel_rfl
theorem w5 : Tryz.prog.funcNamed "loop.example/g00292/laws.FnExactLogsAgree" = some 8 := by kernel_rfl
theorem st61 : Tryz.prog.wantsStandIn 61 = false := by kernel_rfl
theorem plain (f : FuncId) (fn : Func) (hf : Tryz.pinned.checked.prog.funcNamed "loop.example/g00292/laws.FnExactLogsAgree" = some f) (hfn : Tryz.pinned.checked.prog.funcs[f]? = some fn) :
  false = Tryz.pinned.checked.prog.looks [] ∧ ∀ (j : Nat) t, fn.params[j]? = some t → Tryz.pinned.checked.prog.wantsStandIn t = false := by
 obtain rfl : f = 8 := Option.some.inj (w5.symm.trans hf) |>.symm
 obtain rfl : fn = Tryz.f8 := (Option.some.inj (Tryz.func8.symm.trans hfn)).symm
 refine ⟨w4, fun j t ht => ?_⟩
 rw [Tryz.params8] at ht
 have hm := Array.mem_of_getElem? ht
 simp only [List.mem_toArray, List.mem_cons, List.not_mem_nil, or_false] at hm
 obtain rfl := hm
 exact st61
end Go.Proofs.YteifdelnahccjaaGreatDoor.fnExactLogsAgree
