import Derived.Test.YteifdelnahccjaaGreatDoorRows
import Derived.ProofKit
import Derived.ClosedOfChecked
import Derived.Deep.DeepHandedRow
import Derived.Test.YteifdelnahccjaaGreatDoorCards
import Derived.Test.YteifdelnahccjaaGreatDoorG10
namespace Go.Proofs.YteifdelnahccjaaGreatDoor
open Go.V
set_option linter.unusedVariables false
set_option linter.unusedSimpArgs false
set_option maxRecDepth 20000
set_option maxHeartbeats 4000000
def fyOK (n : Int) (F : List Int) : Prop := (F.length : Int) ≤ (n - 1) / 3 ∧ ∀ i, i < F.length → (0 ≤ F.getD i 0 ∧ F.getD i 0 ≤ n - 1) ∧ (0 < i → F.getD (i - 1) 0 < F.getD i 0)
def rsOK (n : Int) (L : List Rep) (i : Nat) : Prop := (L.getD i Rep0).id = (i : Int) ∧ (L.getD i Rep0).nd = n ∧ (L.getD i Rep0).OK
def pcOK (n : Int) (p : Pc) : Prop := (0 ≤ p.to ∧ p.to ≤ n - 1) ∧ sgd mk bare n p.ms
def sgM (n : Int) (m : Msg) : Prop := sgd mk bare n m
def Grp.hd (g : Grp) : Prop := nodes g.nd ∧ fyOK g.nd g.fa ∧ (g.rs.length : Int) = g.nd ∧ g.wi.length ≤ 400 ∧ g.se.length ≤ 4096
def Grp.OK (g : Grp) : Prop := g.hd ∧ (∀ i, i < g.rs.length → rsOK g.nd g.rs i) ∧ (∀ i, i < g.wi.length → pcOK g.nd (g.wi.getD i Pc0)) ∧ (∀ i, i < g.se.length → sgM g.nd (g.se.getD i Msg0))
def riOK (lo hi : Int) (F : List Int) (i : Nat) : Prop := (lo ≤ F.getD i 0 ∧ F.getD i 0 ≤ hi) ∧ (0 < i → F.getD (i - 1) 0 < F.getD i 0)
noncomputable instance dcRi (lo hi : Int) (F : List Int) : Decidable (∀ i, i < F.length → riOK lo hi F i) := Classical.propDecidable _
noncomputable instance dcFy (n : Int) (F : List Int) : Decidable (nodes n ∧ fyOK n F) := Classical.propDecidable _
noncomputable instance dcFz (n : Int) (F : List Int) : Decidable (fyOK n F) := Classical.propDecidable _
noncomputable instance dcGrp (g : Grp) : Decidable g.OK := Classical.propDecidable _
def anyP {α : Type} (P : α → Prop) (L : List α) : Prop := ∃ x ∈ L, P x
noncomputable instance dcAny {α : Type} (P : α → Prop) (L : List α) : Decidable (anyP P L) := Classical.propDecidable _
def nS (n : Int) (m : Msg) : Prop := ¬ (nodes n ∧ sgd mk bare n m)
noncomputable instance dcNs (n : Int) (m : Msg) : Decidable (nS n m) := Classical.propDecidable _
theorem s139 (n : Int) : Pure En 139 [.one (.int .i64 n)] [.one (.int .i64 (if nodes n then (n - 1) / 3 else 0)), .one (.int .i64 (if nodes n then 0 else 4))] := by
 by_cases hn : nodes n
 ·rw [if_pos hn, if_pos hn]
  rcases hn with rfl | rfl | rfl
  all_goals
   refine Pure.of_ev (st := []) Tryz.func139 rfl kb ?_
   refine br ?_ ?_ <;> intro h1_1
   ·refine br ?_ ?_ <;> intro h1_4
    ·refine br ?_ ?_ <;> intro h1_8
     ·first | exact B7 rfl rfl | (exfalso; omega)
     ·refine sd ⟨by (first | omega | decide | (rcases hn with e | e | e <;> omega)), by (first | omega | decide | (rcases hn with e | e | e <;> omega))⟩ ?_
      refine sd (by (first | omega | decide | (rcases hn with e | e | e <;> omega))) ?_
      first | exact B7 rfl rfl | (exfalso; omega)
    ·refine sd ⟨by (first | omega | decide | (rcases hn with e | e | e <;> omega)), by (first | omega | decide | (rcases hn with e | e | e <;> omega))⟩ ?_
     refine sd (by (first | omega | decide | (rcases hn with e | e | e <;> omega))) ?_
     first | exact B7 rfl rfl | (exfalso; omega)
   ·refine sd ⟨by (first | omega | decide | (rcases hn with e | e | e <;> omega)), by (first | omega | decide | (rcases hn with e | e | e <;> omega))⟩ ?_
    refine sd (by (first | omega | decide | (rcases hn with e | e | e <;> omega))) ?_
    first | exact B7 rfl rfl | (exfalso; omega)
 ·rw [if_neg hn, if_neg hn]
  unfold nodes at hn
  refine Pure.of_ev (st := []) Tryz.func139 rfl kb ?_
  refine br ?_ ?_ <;> intro h1_1
  ·refine br ?_ ?_ <;> intro h1_4
   ·refine br ?_ ?_ <;> intro h1_8
    ·first | exact B7 rfl rfl | (exfalso; omega)
    ·refine A7 ?_
     refine A7 ?_
     first | exact B7 rfl rfl | (exfalso; omega)
   ·refine A7 ?_
    refine A7 ?_
    first | exact B7 rfl rfl | (exfalso; omega)
  ·refine A7 ?_
   refine A7 ?_
   first | exact B7 rfl rfl | (exfalso; omega)
theorem s169 (lo hi : Int) (F : List Int) (b : Bool) (hF : F.length ≤ 1048576) : Pure En 169 [.one (.sl b (F.map iT)), .one (.int .i64 lo), .one (.int .i64 hi)] [.one (.bool (decide (∀ i, i < F.length → riOK lo hi F i)))] := by
 have hl : (F.map iT).length = F.length := List.length_map ..
 refine Pure.of_ev (st := []) Tryz.func169 rfl kb ?_
 refine C8 (fun (i : Nat) => [.sl false b (F.map iT), .int .i64 lo, .int .i64 hi, .unk, .unk, .unk, .unk, .unk, .unk, .sl false b (F.map iT), .int .i64 ((F.map iT).length : Int), .int .i64 i]) (fun (i : Nat) => i ≤ F.length ∧ ∀ j, j < i → riOK lo hi F j) (fun (i : Nat) => F.length - i) 0 ?_ ?_ ?_
 ·exact ⟨Nat.zero_le _, E7⟩
 ·(repeat first | exact LE.nil _ | refine LE.unk _ _ ?_ | refine LE.eq _ _ _ rfl ?_)
 intro i hI ih
 obtain ⟨u0, u2⟩ := hI
 refine A4 (st := []) ?_
 refine br ?_ ?_ <;> intro h2_0
 ·(refine A7 (C5 (by first | rfl | assumption | exact Q15) rfl ?_))
  refine B3 (U2 _ _ _) rfl j2 ?_ ?_ <;> intro h4_3
  ·refine br ?_ ?_ <;> intro h4_7
   ·refine A7 ?_
    (refine A7 (C5 (by first | rfl | assumption | exact Q15) rfl ?_))
    refine br ?_ ?_ <;> intro h4_15
    ·refine B0 rfl ?_; intro q; obtain ⟨e1, e2⟩ := q i (by omega); first | exact h4_3 e1 | (have := e2 (by omega); omega)
    ·refine A7 ?_
     exact T3 (ih (i + 1) ⟨by omega, D2 u2 ⟨h4_3, fun _ => by omega⟩⟩ (by omega)) (by (repeat first | exact LE.nil _ | refine LE.unk _ _ ?_ | refine LE.eq _ _ _ rfl ?_))
   ·refine A7 ?_
    exact T3 (ih (i + 1) ⟨by omega, D2 u2 ⟨h4_3, fun _ => by omega⟩⟩ (by omega)) (by (repeat first | exact LE.nil _ | refine LE.unk _ _ ?_ | refine LE.eq _ _ _ rfl ?_))
  ·refine B0 rfl ?_; intro q; obtain ⟨e1, e2⟩ := q i (by omega); first | exact h4_3 e1 | (have := e2 (by omega); omega)
 ·refine B8 rfl ?_; exact fun j hj => u2 j (by omega)
theorem s97 (n : Int) (F : List Int) (b : Bool) (hF : F.length ≤ 1048576) : Pure En 97 [.one (.int .i64 n), .one (.sl b (F.map iT))] [.one (.bool (decide (nodes n ∧ fyOK n F)))] := by
 have hl : (F.map iT).length = F.length := List.length_map ..
 by_cases hn2 : nodes n
 ·have s139 : ∀ _ : Int, Pure En 139 [.one (.int .i64 n)] [.one (.int .i64 ((n - 1) / 3)), .one (.int .i64 0)] := fun _ => by have := s139 n; rwa [if_pos hn2, if_pos hn2] at this
  refine Pure.of_ev (st := []) Tryz.func97 rfl kb ?_
  refine C1 (s139 n) rfl rfl rfl ?_
  refine br ?_ (fun h => absurd (rfl) h)
  intro h2_1
  refine br ?_ ?_ <;> intro h2_6
  ·refine sd ⟨by (first | omega | assumption | (rcases hn2 with e | e | e <;> omega)), by (first | omega | assumption | (rcases hn2 with e | e | e <;> omega))⟩ ?_
   refine B3 (s169 0 (n - 1) F b hF) rfl j2 ?_ ?_ <;> intro h2_12
   ·first | (refine B8 rfl ?_; exact ⟨hn2, by omega, h2_12⟩) | (refine B0 rfl ?_; rintro ⟨q1, q2, q3⟩; first | exact h2_12 q3 | omega)
   ·first | (refine B8 rfl ?_; exact ⟨hn2, by omega, h2_12⟩) | (refine B0 rfl ?_; rintro ⟨q1, q2, q3⟩; first | exact h2_12 q3 | omega)
  ·first | (refine B8 rfl ?_; exact ⟨hn2, by omega, h2_12⟩) | (refine B0 rfl ?_; rintro ⟨q1, q2, q3⟩; first | exact h2_12 q3 | omega)
 ·have s139 : ∀ _ : Int, Pure En 139 [.one (.int .i64 n)] [.one (.int .i64 0), .one (.int .i64 4)] := fun _ => by have := s139 n; rwa [if_neg hn2, if_neg hn2] at this
  refine Pure.of_ev (st := []) Tryz.func97 rfl kb ?_
  refine C1 (s139 n) rfl rfl rfl ?_
  refine br (fun h => absurd h ((by decide))) ?_
  intro h2_1
  refine B0 rfl ?_; exact fun q => hn2 q.1
theorem o99 (G : Grp) (m : Msg) {id : Nat} {h : Heap} {n : Nat} (hid : id < n) (hh : h id = some ⟨[[.int .i64 G.nd, .sl false false (G.fa.map iT), .sl false false (G.rs.map Rep.T), .sl false false (G.wi.map Pc.T), .sl false false (G.se.map Msg.T)]], 5, 67⟩) : V.Open En 99 [.agg m.V, .ptr id 0 0] h n (.bool (decide (nS G.nd m))) [] (n + 1) := by
 refine V.Open.of_ev (st := []) Tryz.func99 rfl kb ?_
 refine A2 ?_ (by exact Q0) (by exact Q2)
 (apply C9 (vs := [.int _ _, .int _ _, .int _ _, .int _ _, .str _, .str _, .str _]) j2; exact Q0; exact Q2; rfl; exact kb; rfl)
 refine B3 (s55 G.nd m) rfl j2 ?_ ?_ <;> intro h1_3
 ·first
  | (rw [decide_eq_false (show ¬ nS G.nd m from fun q => q h1_3)]; exact fiO rfl rfl (leWr (fun j hj => absurd hj List.not_mem_nil) (fun j hj hn => by simp (disch := omega) only [↓app0, ↓appC, ↓updS, ↓updN])) (Nat.le_refl _))
  | (rw [decide_eq_true (show nS G.nd m from h1_3)]; exact fiO rfl rfl (leWr (fun j hj => absurd hj List.not_mem_nil) (fun j hj hn => by simp (disch := omega) only [↓app0, ↓appC, ↓updS, ↓updN])) (Nat.le_refl _))
 ·first
  | (rw [decide_eq_false (show ¬ nS G.nd m from fun q => q h1_3)]; exact fiO rfl rfl (leWr (fun j hj => absurd hj List.not_mem_nil) (fun j hj hn => by simp (disch := omega) only [↓app0, ↓appC, ↓updS, ↓updN])) (Nat.le_refl _))
  | (rw [decide_eq_true (show nS G.nd m from h1_3)]; exact fiO rfl rfl (leWr (fun j hj => absurd hj List.not_mem_nil) (fun j hj hn => by simp (disch := omega) only [↓app0, ↓appC, ↓updS, ↓updN])) (Nat.le_refl _))
theorem o170g (fr b : Bool) (L : List Msg) (G : Grp) {id : Nat} {h : Heap} {n : Nat} (hid : id < n) (hh : h id = some ⟨[[.int .i64 G.nd, .sl false false (G.fa.map iT), .sl false false (G.rs.map Rep.T), .sl false false (G.wi.map Pc.T), .sl false false (G.se.map Msg.T)]], 5, 67⟩) (hL : L.length ≤ 1048576) : V.Open En 170 [.sl fr b (L.map Msg.T), .clo 99 [.ptr id 0 0]] h n (.int .i64 (pix (nS G.nd) L 0)) [] (n + 1 * L.length) := by
 have hl : (L.map Msg.T).length = L.length := List.length_map ..
 refine V.Open.of_ev (st := []) Tryz.func170 rfl kb ?_
 refine B4 (fun (a : Nat × Nat) => [.sl fr b (L.map Msg.T), .clo 99 [.ptr id 0 0], .unk, .unk, .unk, .unk, .unk, .int .i64 (L.map Msg.T).length, .int .i64 a.1]) (fun (a : Nat × Nat) => h) (fun (a : Nat × Nat) => a.2) (fun (a : Nat × Nat) => a.1 ≤ L.length ∧ pix (nS G.nd) (L.drop a.1) a.1 = pix (nS G.nd) L 0 ∧ n + 1 * a.1 = a.2) (fun (a : Nat × Nat) => L.length - a.1) (0, n) ?_ ?_ ?_ ?_ ?_
 ·exact ⟨Nat.zero_le _, rfl, by omega⟩
 ·(repeat first | exact LE.nil _ | refine LE.unk _ _ ?_ | refine LE.eq _ _ _ rfl ?_)
 ·exact LessH.refl _
 ·exact Nat.le_refl _
 intro ⟨i, m⟩ hI ih
 obtain ⟨q0, q1, q2⟩ := hI
 dsimp only at q0 q1 q2 ⊢
 refine A4 (st := []) ?_
 refine br ?_ ?_ <;> intro h2_0
 ·(refine A7 (C5 (by first | rfl | assumption | (exact A9 Msg.T Msg0 (k := i) (by omega))) rfl ?_))
  refine T6 (o99 G (L.getD i Msg0) (n := m) (by omega) hh) rfl j2 ?_ ?_
  all_goals intro h4_5
  ·rw [← q1, pix_y (d := Msg0) (L := L) (i := i) (by omega) (of_decide_eq_true h4_5)]; exact fiO rfl rfl (fun _ _ _ e => e) (by omega)
  ·refine A7 ?_
   have e1 := (pix_n (P := nS G.nd) (d := Msg0) (L := L) (i := i) (by omega) (of_decide_eq_false h4_5)).symm.trans q1
   exact D5 (ih (i + 1, m + 1) ⟨by dsimp only; omega, e1, by dsimp only; omega⟩ (by dsimp only; omega)) (by (repeat first | exact LE.nil _ | refine LE.unk _ _ ?_ | refine LE.eq _ _ _ rfl ?_)) (LessH.refl _) (Nat.le_refl _)
 ·rw [← q1, pix_end (L := L) (i := i) (by omega)]; exact fiO rfl rfl (fun _ _ _ e => e) (by omega)
theorem o98g (fr b : Bool) (L : List Msg) (G : Grp) {id : Nat} {h : Heap} {n : Nat} (hid : id < n) (hh : h id = some ⟨[[.int .i64 G.nd, .sl false false (G.fa.map iT), .sl false false (G.rs.map Rep.T), .sl false false (G.wi.map Pc.T), .sl false false (G.se.map Msg.T)]], 5, 67⟩) (hL : L.length ≤ 1048576) : V.Open En 98 [.sl fr b (L.map Msg.T), .clo 99 [.ptr id 0 0]] h n (.bool (decide (anyP (nS G.nd) L))) [] (n + 1 * L.length) := by
 refine V.Open.of_ev (st := []) Tryz.func98 rfl kb ?_
 refine L1 (o170g fr b L G hid hh hL) rfl rfl rfl ?_
 refine br ?_ ?_ <;> intro h1_3
 ·first
  | (rw [decide_eq_true (show anyP (nS G.nd) L from (I9 (P := nS G.nd) L 0).1 (by omega))]; exact fiO rfl rfl (fun _ _ _ e => e) (Nat.le_refl _))
  | (rw [decide_eq_false (show ¬ anyP (nS G.nd) L from fun q => by have := (I9 (P := nS G.nd) L 0).2 q; omega)]; exact fiO rfl rfl (fun _ _ _ e => e) (Nat.le_refl _))
 ·first
  | (rw [decide_eq_true (show anyP (nS G.nd) L from (I9 (P := nS G.nd) L 0).1 (by omega))]; exact fiO rfl rfl (fun _ _ _ e => e) (Nat.le_refl _))
  | (rw [decide_eq_false (show ¬ anyP (nS G.nd) L from fun q => by have := (I9 (P := nS G.nd) L 0).2 q; omega)]; exact fiO rfl rfl (fun _ _ _ e => e) (Nat.le_refl _))
theorem Grp.sm {G : Grp} (h : TBs 1048576 G.T) : G.fa.length ≤ 1048576 ∧ G.rs.length ≤ 1048576 ∧ (∀ i, i < G.rs.length → TBs 1048576 (G.rs.getD i Rep0).T) ∧ G.wi.length ≤ 1048576 ∧ G.se.length ≤ 1048576 := by
 obtain ⟨h1, h2, h3, h4⟩ := Grp.tb.1 h
 obtain ⟨a1, a2⟩ := (B6 Rep.T Rep0).1 h2
 exact ⟨((B6 iT 0).1 h1).1, a1, a2, ((B6 Pc.T Pc0).1 h3).1, ((B6 Msg.T Msg0).1 h4).1⟩
theorem s34 (G : Grp) (hb : TBs 1048576 G.T) : Pure En 34 [.agg G.T] [.one (.bool (decide G.OK))] := by
 obtain ⟨hF, hR0, hR, hW, hS⟩ := Grp.sm hb
 have hl1 : (G.fa.map iT).length = G.fa.length := List.length_map ..
 have hl2 : (G.rs.map Rep.T).length = G.rs.length := List.length_map ..
 have hl3 : (G.wi.map Pc.T).length = G.wi.length := List.length_map ..
 have hl4 : (G.se.map Msg.T).length = G.se.length := List.length_map ..
 refine Pure.of_ev (st := []) Tryz.func34 rfl kb ?_
 refine A2 ?_ (by exact Q0) (by exact Q2)
 refine A2 ?_ (by exact Q0) (by exact Q2)
 refine B3 (s97 G.nd G.fa false hF) rfl j2 ?_ ?_ <;> intro h1_4
 ·refine A2 ?_ (by exact Q0) (by exact Q2)
  refine A2 ?_ (by exact Q0) (by exact Q2)
  refine br ?_ ?_ <;> intro h1_12
  ·refine B0 rfl ?_; rintro ⟨⟨q1, q2, q3, q4, q5⟩, _⟩; first | exact h1_4 ⟨q1, q2⟩ | omega
  ·refine A2 ?_ (by exact Q0) (by exact Q2)
   refine br ?_ ?_ <;> intro h1_18
   ·refine B0 rfl ?_; rintro ⟨⟨q1, q2, q3, q4, q5⟩, _⟩; first | exact h1_4 ⟨q1, q2⟩ | omega
   ·refine A2 ?_ (by exact Q0) (by exact Q2)
    refine br ?_ ?_ <;> intro h1_24
    ·refine B0 rfl ?_; rintro ⟨⟨q1, q2, q3, q4, q5⟩, _⟩; first | exact h1_4 ⟨q1, q2⟩ | omega
    ·refine A2 ?_ (by exact Q0) (by exact Q2)
     refine B4 (fun (a : Nat × Nat) => [.unk, .ptr 0 0 0, .unk, .unk, .unk, .unk, .unk, .unk, .unk, .unk, .unk, .unk, .unk, .unk, .unk, .unk, .unk, .unk, .unk, .unk, .unk, .unk, .unk, .unk, .unk, .unk, .unk, .unk, .unk, .unk, .unk, .unk, .unk, .unk, .sl false false (G.rs.map Rep.T), .int .i64 ((G.rs.map Rep.T).length : Int), .int .i64 a.1]) (fun (a : Nat × Nat) => hp [(0, ⟨[[.int .i64 G.nd, .sl false false (G.fa.map iT), .sl false false (G.rs.map Rep.T), .sl false false (G.wi.map Pc.T), .sl false false (G.se.map Msg.T)]], 5, 67⟩)]) (fun (a : Nat × Nat) => a.2) (fun (a : Nat × Nat) => a.1 ≤ G.rs.length ∧ 1 ≤ a.2 ∧ ∀ j, j < a.1 → rsOK G.nd G.rs j) (fun (a : Nat × Nat) => G.rs.length - a.1) (0, 1) ?_ ?_ ?_ ?_ ?_
     ·exact ⟨Nat.zero_le _, Nat.le_refl _, E7⟩
     ·(repeat first | exact LE.nil _ | refine LE.unk _ _ ?_ | refine LE.eq _ _ _ rfl ?_)
     ·(repeat first | exact A5 | (refine A6 ?_ ?_; exact H8))
     ·exact Nat.le_refl _
     intro ⟨i, m⟩ hI ih
     obtain ⟨u0, u1, u2⟩ := hI
     dsimp only at u0 u1 u2 ⊢
     refine A4 (st := []) ?_
     refine br ?_ ?_ <;> intro h4_0
     ·(refine A7 (C5 (by first | rfl | assumption | (first | exact A9 Rep.T Rep0 (k := i) (by omega) | exact A9 Pc.T Pc0 (k := i2) (by omega))) rfl ?_))
      (apply est (u := .agg [.int _ _, .int _ _, .int _ _, .bool _, _, _, _, _]) j3; exact Q0; exact Q2; exact j4; exact kb; rfl)
      refine A2 ?_ (by exact Q0) (by exact Q2)
      refine br ?_ ?_ <;> intro h6_3
      ·refine B0 rfl ?_; rintro ⟨_, q2, _⟩; obtain ⟨e1, e2, e3⟩ := q2 i (by omega); first | omega | exact h6_13 e3
      ·refine A2 ?_ (by exact Q0) (by exact Q2)
       refine A2 ?_ (by exact Q0) (by exact Q2)
       refine br ?_ ?_ <;> intro h6_9
       ·refine B0 rfl ?_; rintro ⟨_, q2, _⟩; obtain ⟨e1, e2, e3⟩ := q2 i (by omega); first | omega | exact h6_13 e3
       ·(apply C9 (vs := [.int _ _, .int _ _, .int _ _, .bool _, _, _, _, _]) j2; exact Q0; exact Q2; rfl; exact kb; rfl)
        refine B3 (s29 (G.rs.getD i Rep0) (hR i (by omega))) rfl j2 ?_ ?_ <;> intro h6_13
        ·refine sd ⟨by (first | omega | (rcases h1_4.1 with e | e | e <;> omega)), by (first | omega | (rcases h1_4.1 with e | e | e <;> omega))⟩ ?_
         exact D5 (ih (i + 1, m + 1) ⟨by dsimp only; omega, by dsimp only; omega, D2 u2 ⟨by omega, by omega, h6_13⟩⟩ (by dsimp only; omega)) (by (repeat first | exact LE.nil _ | refine LE.unk _ _ ?_ | refine LE.eq _ _ _ rfl ?_)) (by (repeat first | exact A5 | (refine A6 ?_ ?_; exact H8))) (Nat.le_refl _)
        ·refine B0 rfl ?_; rintro ⟨_, q2, _⟩; obtain ⟨e1, e2, e3⟩ := q2 i (by omega); first | omega | exact h6_13 e3
     ·refine A2 ?_ (by exact Q0) (by exact Q2)
      refine B4 (fun (a : Nat × Nat) => [.unk, .ptr 0 0 0, .unk, .unk, .unk, .unk, .unk, .unk, .unk, .unk, .unk, .unk, .unk, .unk, .unk, .unk, .unk, .unk, .unk, .unk, .unk, .unk, .unk, .unk, .unk, .unk, .unk, .unk, .unk, .unk, .unk, .unk, .unk, .unk, .unk, .unk, .unk, .unk, .unk, .unk, .unk, .unk, .unk, .unk, .unk, .unk, .unk, .unk, .unk, .unk, .unk, .unk, .unk, .unk, .unk, .unk, .unk, .unk, .unk, .sl false false (G.wi.map Pc.T), .int .i64 ((G.wi.map Pc.T).length : Int), .int .i64 a.1]) (fun (a : Nat × Nat) => hp [(0, ⟨[[.int .i64 G.nd, .sl false false (G.fa.map iT), .sl false false (G.rs.map Rep.T), .sl false false (G.wi.map Pc.T), .sl false false (G.se.map Msg.T)]], 5, 67⟩)]) (fun (a : Nat × Nat) => a.2) (fun (a : Nat × Nat) => a.1 ≤ G.wi.length ∧ 1 ≤ a.2 ∧ ∀ j, j < a.1 → pcOK G.nd (G.wi.getD j Pc0)) (fun (a : Nat × Nat) => G.wi.length - a.1) (0, m) ?_ ?_ ?_ ?_ ?_
      ·exact ⟨Nat.zero_le _, u1, E7⟩
      ·(repeat first | exact LE.nil _ | refine LE.unk _ _ ?_ | refine LE.eq _ _ _ rfl ?_)
      ·(repeat first | exact A5 | (refine A6 ?_ ?_; exact H8))
      ·exact Nat.le_refl _
      intro ⟨i2, m2⟩ hI ih
      obtain ⟨v0, v1, v2⟩ := hI
      dsimp only at v0 v1 v2 ⊢
      refine A4 (st := []) ?_
      refine br ?_ ?_ <;> intro h10_0
      ·(refine A7 (C5 (by first | rfl | assumption | (first | exact A9 Rep.T Rep0 (k := i) (by omega) | exact A9 Pc.T Pc0 (k := i2) (by omega))) rfl ?_))
       (apply est (u := .agg [.int _ _, .int _ _, .int _ _, .int _ _, .int _ _, .str _, .str _, .str _]) j3; exact Q0; exact Q2; exact j4; exact kb; rfl)
       refine A2 ?_ (by exact Q0) (by exact Q2)
       refine A2 ?_ (by exact Q0) (by exact Q2)
       refine sd ⟨by (first | omega | (rcases h1_4.1 with e | e | e <;> omega)), by (first | omega | (rcases h1_4.1 with e | e | e <;> omega))⟩ ?_
       refine B3 (U2 _ _ _) rfl j2 ?_ ?_ <;> intro h12_5
       ·refine A2 ?_ (by exact Q0) (by exact Q2)
        (apply C9 (vs := [.int _ _, .int _ _, .int _ _, .int _ _, .str _, .str _, .str _]) j2; exact Q0; exact Q2; rfl; exact kb; rfl)
        refine B3 (s55 G.nd (G.wi.getD i2 Pc0).ms) rfl j2 ?_ ?_ <;> intro h12_12
        ·refine sd ⟨by (first | omega | (rcases h1_4.1 with e | e | e <;> omega)), by (first | omega | (rcases h1_4.1 with e | e | e <;> omega))⟩ ?_
         exact D5 (ih (i2 + 1, m2 + 1) ⟨by dsimp only; omega, by dsimp only; omega, D2 v2 ⟨h12_5, h12_12.2⟩⟩ (by dsimp only; omega)) (by (repeat first | exact LE.nil _ | refine LE.unk _ _ ?_ | refine LE.eq _ _ _ rfl ?_)) (by (repeat first | exact A5 | (refine A6 ?_ ?_; exact H8))) (Nat.le_refl _)
        ·refine B0 rfl ?_; rintro ⟨_, _, q3, _⟩; obtain ⟨e1, e2⟩ := q3 i2 (by omega); first | exact h12_5 e1 | exact h12_12 ⟨h1_4.1, e2⟩
       ·refine B0 rfl ?_; rintro ⟨_, _, q3, _⟩; obtain ⟨e1, e2⟩ := q3 i2 (by omega); first | exact h12_5 e1 | exact h12_12 ⟨h1_4.1, e2⟩
      ·refine A2 ?_ (by exact Q0) (by exact Q2)
       refine T6 (o98g false false G.se G (id := 0) ?_ ?_ hS) rfl j2 ?_ ?_
       ·exact E8
       ·exact E8
       all_goals intro h15_3
       ·first
        | (refine B0 rfl ?_; rintro ⟨_, _, _, q4⟩; obtain ⟨x, hx, hn⟩ := of_decide_eq_true h15_3; obtain ⟨k, hk, rfl⟩ := List.getElem_of_mem hx; have := q4 k hk; rw [show G.se.getD k Msg0 = G.se[k] by simp [hk]] at this; exact hn ⟨h1_4.1, this⟩)
        | (refine B8 rfl ?_; refine ⟨⟨h1_4.1, h1_4.2, by omega, by omega, by omega⟩, fun j hj => u2 j (by omega), fun j hj => v2 j (by omega), fun j hj => ?_⟩; refine Classical.byContradiction fun q => of_decide_eq_false h15_3 ⟨G.se.getD j Msg0, ?_, fun e => q e.2⟩; rw [show G.se.getD j Msg0 = G.se[j] by simp [hj]]; exact List.getElem_mem hj)
       ·first
        | (refine B0 rfl ?_; rintro ⟨_, _, _, q4⟩; obtain ⟨x, hx, hn⟩ := of_decide_eq_true h15_3; obtain ⟨k, hk, rfl⟩ := List.getElem_of_mem hx; have := q4 k hk; rw [show G.se.getD k Msg0 = G.se[k] by simp [hk]] at this; exact hn ⟨h1_4.1, this⟩)
        | (refine B8 rfl ?_; refine ⟨⟨h1_4.1, h1_4.2, by omega, by omega, by omega⟩, fun j hj => u2 j (by omega), fun j hj => v2 j (by omega), fun j hj => ?_⟩; refine Classical.byContradiction fun q => of_decide_eq_false h15_3 ⟨G.se.getD j Msg0, ?_, fun e => q e.2⟩; rw [show G.se.getD j Msg0 = G.se[j] by simp [hj]]; exact List.getElem_mem hj)
 ·refine B0 rfl ?_; rintro ⟨⟨q1, q2, q3, q4, q5⟩, _⟩; first | exact h1_4 ⟨q1, q2⟩ | omega
open Go.V
set_option linter.unusedVariables false
set_option linter.unusedSimpArgs false
set_option maxRecDepth 20000
set_option maxHeartbeats 4000000
theorem ctP {n : Int} (hn : nodes n) {c : Ct} : ctOK mk bare rdM dgB n c → 0 < c.ps.length := fun h => hce ⟨hn, h⟩
theorem r75 (R : Rep) (hn : nodes R.nd) (L : List Msg) (kd sq : Int) (hL : L.length ≤ 1048576) : Pure En 75 [.agg R.T, .one (.sl false (L.map Msg.T)), .one (.int .i64 kd), .one (.int .i64 sq)] [.one (.bool (decide (∀ i, i < L.length → arS R.nd kd R.vw sq L i)))] := by
 have hl : (L.map Msg.T).length = L.length := List.length_map ..
 refine Pure.of_ev (st := []) Tryz.func75 rfl kb ?_
 refine B4 (fun (a : Nat × Nat) => [.unk, .sl false false (L.map Msg.T), .int .i64 kd, .int .i64 sq, .ptr 0 0 0, .unk, .unk, .unk, .unk, .int .i64 a.1]) (fun (a : Nat × Nat) => hp [(0, ⟨[[.int .i64 R.id, .int .i64 R.nd, .int .i64 R.vw, .bool R.ac, .sl false false (R.sl.map Slt.T), .sl false false (R.cs.map (Ct.T false)), .sl false false (R.lg.map tT), .sl false false (R.ch.map Msg.T)]], 8, 54⟩)]) (fun (a : Nat × Nat) => a.2) (fun (a : Nat × Nat) => a.1 ≤ L.length ∧ 1 ≤ a.2 ∧ ∀ j, j < a.1 → arS R.nd kd R.vw sq L j) (fun (a : Nat × Nat) => L.length - a.1) (0, 1) ?_ ?_ ?_ ?_ ?_
 ·exact ⟨Nat.zero_le _, Nat.le_refl _, E7⟩
 ·(repeat first | exact LE.nil _ | refine LE.unk _ _ ?_ | refine LE.eq _ _ _ rfl ?_)
 ·(repeat first | exact A5 | (refine A6 ?_ ?_; exact H8))
 ·exact Nat.le_refl _
 intro ⟨i, m⟩ hI ih
 obtain ⟨u0, u1, u2⟩ := hI
 dsimp only at u0 u1 u2 ⊢
 refine A4 (st := []) ?_
 refine br ?_ ?_ <;> intro h2_3
 ·(refine A7 (C5 (by first | rfl | assumption | (first | exact A9 Slt.T Slt0 (k := i) (by omega) | exact A9 (Ct.T false) Ct0 (k := i) (by omega) | exact A9 tT ⟨#[]⟩ (k := i3) (by omega) | exact A9 Msg.T Msg0 (k := i) (by omega) | exact A9 Msg.T Msg0 (k := 0) (by omega) | (have e : ((i : Int) - 1).toNat = i - 1 := (by omega); rw [e]; exact A9 Msg.T Msg0 (k := i - 1) (by omega)))) rfl ?_))
  (apply est (u := .agg [.int _ _, .int _ _, .int _ _, .int _ _, .str _, .str _, .str _]) j3; exact Q0; exact Q2; exact j4; exact kb; rfl)
  refine A2 ?_ (by exact Q0) (by exact Q2)
  refine br ?_ ?_ <;> intro h5_3
  ·refine B0 rfl ?_; intro q; obtain ⟨e1, e2, e3, ⟨_, e4⟩, e5⟩ := q i (by omega); first | omega | exact h5_21 e4 | (have := e5 (by omega); omega)
  ·refine A2 ?_ (by exact Q0) (by exact Q2)
   refine A2 ?_ (by exact Q0) (by exact Q2)
   refine br ?_ ?_ <;> intro h5_9
   ·refine B0 rfl ?_; intro q; obtain ⟨e1, e2, e3, ⟨_, e4⟩, e5⟩ := q i (by omega); first | omega | exact h5_21 e4 | (have := e5 (by omega); omega)
   ·refine A2 ?_ (by exact Q0) (by exact Q2)
    refine br ?_ ?_ <;> intro h5_15
    ·refine B0 rfl ?_; intro q; obtain ⟨e1, e2, e3, ⟨_, e4⟩, e5⟩ := q i (by omega); first | omega | exact h5_21 e4 | (have := e5 (by omega); omega)
    ·refine A2 ?_ (by exact Q0) (by exact Q2)
     (apply C9 (vs := [.int _ _, .int _ _, .int _ _, .int _ _, .str _, .str _, .str _]) j2; exact Q0; exact Q2; rfl; exact kb; rfl)
     refine B3 (r93 R.nd (L.getD i Msg0)) rfl j2 ?_ ?_ <;> intro h5_21
     ·refine br ?_ ?_ <;> intro h5_26
      ·refine A7 ?_
       (refine A7 (C5 (by first | rfl | assumption | (first | exact A9 Slt.T Slt0 (k := i) (by omega) | exact A9 (Ct.T false) Ct0 (k := i) (by omega) | exact A9 tT ⟨#[]⟩ (k := i3) (by omega) | exact A9 Msg.T Msg0 (k := i) (by omega) | exact A9 Msg.T Msg0 (k := 0) (by omega) | (have e : ((i : Int) - 1).toNat = i - 1 := (by omega); rw [e]; exact A9 Msg.T Msg0 (k := i - 1) (by omega)))) rfl ?_))
       refine A2 ?_ (by exact Q0) (by exact Q2)
       refine br ?_ ?_ <;> intro h5_36
       ·refine B0 rfl ?_; intro q; obtain ⟨e1, e2, e3, ⟨_, e4⟩, e5⟩ := q i (by omega); first | omega | exact h5_21 e4 | (have := e5 (by omega); omega)
       ·refine A7 ?_
        exact D5 (ih (i + 1, m + 1) ⟨by dsimp only; omega, by dsimp only; omega, D2 u2 ⟨by omega, by omega, by omega, ⟨hn, h5_21⟩, fun _ => by omega⟩⟩ (by dsimp only; omega)) (by (repeat first | exact LE.nil _ | refine LE.unk _ _ ?_ | refine LE.eq _ _ _ rfl ?_)) (by (repeat first | exact A5 | (refine A6 ?_ ?_; exact H8))) (Nat.le_refl _)
      ·refine A7 ?_
       exact D5 (ih (i + 1, m + 1) ⟨by dsimp only; omega, by dsimp only; omega, D2 u2 ⟨by omega, by omega, by omega, ⟨hn, h5_21⟩, fun _ => by omega⟩⟩ (by dsimp only; omega)) (by (repeat first | exact LE.nil _ | refine LE.unk _ _ ?_ | refine LE.eq _ _ _ rfl ?_)) (by (repeat first | exact A5 | (refine A6 ?_ ?_; exact H8))) (Nat.le_refl _)
     ·refine B0 rfl ?_; intro q; obtain ⟨e1, e2, e3, ⟨_, e4⟩, e5⟩ := q i (by omega); first | omega | exact h5_21 e4 | (have := e5 (by omega); omega)
 ·refine B8 rfl ?_; exact fun j hj => u2 j (by omega)
theorem r27 (R : Rep) (hb : TBs 1048576 R.T) : Pure En 27 [.agg R.T] [.one (.bool (decide R.OK))] := by
 obtain ⟨hS0, hS1, hS2, hC0, hC1, hG0, hM0⟩ := Rep.sm hb
 have hl1 : (R.sl.map Slt.T).length = R.sl.length := List.length_map ..
 have hl2 : (R.cs.map (Ct.T false)).length = R.cs.length := List.length_map ..
 have hl3 : (R.lg.map tT).length = R.lg.length := List.length_map ..
 have hl4 : (R.ch.map Msg.T).length = R.ch.length := List.length_map ..
 refine Pure.of_ev (st := []) Tryz.func27 rfl kb ?_
 refine A2 ?_ (by exact Q0) (by exact Q2)
 refine B3 (s49 R.nd) rfl j2 ?_ ?_ <;> intro h1_2
 ·refine A2 ?_ (by exact Q0) (by exact Q2)
  refine A2 ?_ (by exact Q0) (by exact Q2)
  refine sd ⟨by exact Q9, by exact Q9⟩ ?_
  refine B3 (s50 _ _ _) rfl j2 ?_ ?_ <;> intro h1_10
  ·refine A2 ?_ (by exact Q0) (by exact Q2)
   refine B3 (s50 _ _ _) rfl j2 ?_ ?_ <;> intro h1_16
   ·refine A2 ?_ (by exact Q0) (by exact Q2)
    refine br ?_ ?_ <;> intro h1_23
    ·refine B0 rfl ?_; rintro ⟨⟨q1, q2, q3, q4, q5, q6, q7⟩, _⟩; first | exact h1_2 q1 | exact h1_10 q2 | exact h1_16 q3 | omega
    ·refine A2 ?_ (by exact Q0) (by exact Q2)
     refine br ?_ ?_ <;> intro h1_29
     ·refine B0 rfl ?_; rintro ⟨⟨q1, q2, q3, q4, q5, q6, q7⟩, _⟩; first | exact h1_2 q1 | exact h1_10 q2 | exact h1_16 q3 | omega
     ·refine A2 ?_ (by exact Q0) (by exact Q2)
      refine br ?_ ?_ <;> intro h1_35
      ·refine B0 rfl ?_; rintro ⟨⟨q1, q2, q3, q4, q5, q6, q7⟩, _⟩; first | exact h1_2 q1 | exact h1_10 q2 | exact h1_16 q3 | omega
      ·refine A2 ?_ (by exact Q0) (by exact Q2)
       refine A2 ?_ (by exact Q0) (by exact Q2)
       refine br ?_ ?_ <;> intro h1_43
       ·refine B0 rfl ?_; rintro ⟨⟨q1, q2, q3, q4, q5, q6, q7⟩, _⟩; first | exact h1_2 q1 | exact h1_10 q2 | exact h1_16 q3 | omega
       ·refine B4 (fun (a : Nat × Nat) => [.unk, .ptr 0 0 0, .unk, .int .i64 a.1]) (fun (a : Nat × Nat) => hp [(0, ⟨[[.int .i64 R.id, .int .i64 R.nd, .int .i64 R.vw, .bool R.ac, .sl false false (R.sl.map Slt.T), .sl false false (R.cs.map (Ct.T false)), .sl false false (R.lg.map tT), .sl false false (R.ch.map Msg.T)]], 8, 54⟩)]) (fun (a : Nat × Nat) => a.2) (fun (a : Nat × Nat) => a.1 ≤ R.sl.length ∧ 1 ≤ a.2 ∧ (∀ j, j < a.1 → slOK R.nd R.vw ((j : Int) + 1) (R.sl.getD j Slt0)) ∧ ∀ j, j < a.1 → ceOK R.nd R.vw ((j : Int) + 1) (R.cs.getD j Ct0)) (fun (a : Nat × Nat) => R.sl.length - a.1) (0, 1) ?_ ?_ ?_ ?_ ?_
        ·exact ⟨Nat.zero_le _, Nat.le_refl _, E7, E7⟩
        ·(repeat first | exact LE.nil _ | refine LE.unk _ _ ?_ | refine LE.eq _ _ _ rfl ?_)
        ·(repeat first | exact A5 | (refine A6 ?_ ?_; exact H8))
        ·exact Nat.le_refl _
        intro ⟨i, m⟩ hI ih
        obtain ⟨u0, u1, u2, u3⟩ := hI
        dsimp only at u0 u1 u2 u3 ⊢
        have hsq : (R.cs.getD i Ct0).sq = ((R.cs.getD i Ct0).ps.getD 0 Msg0).sq := rfl
        have hvw : (R.cs.getD i Ct0).vw = ((R.cs.getD i Ct0).ps.getD 0 Msg0).vw := rfl
        have hl5 : ((R.cs.getD i Ct0).ps.map Msg.T).length = (R.cs.getD i Ct0).ps.length := List.length_map ..
        refine A4 (st := []) ?_
        refine br ?_ ?_ <;> intro h4_1
        ·refine A2 ?_ (by exact Q0) (by exact Q2)
         (refine A7 (C5 (by first | rfl | assumption | exact Q6) rfl ?_))
         (apply est (u := .agg [.str _, _, _, .bool _, .bool _]) j3; exact Q0; exact Q2; exact j4; exact kb; rfl)
         refine A2 ?_ (by exact Q0) (by exact Q2)
         refine br ?_ ?_ <;> intro h7_3
         ·refine B0 rfl ?_; rintro ⟨_, q2, _⟩; obtain ⟨e1, e2, e3⟩ := q2 i (by omega); first | exact h7_23 e2 | exact h7_32 e3 | exact h7_13 (e1 h7_7).2 | (have := e1 (fun e => by rw [e] at h7_3; exact absurd h7_3 (by decide)); omega)
         ·refine A2 ?_ (by exact Q0) (by exact Q2)
          refine br ?_ ?_ <;> intro h7_7
          ·refine A2 ?_ (by exact Q0) (by exact Q2)
           refine A2 ?_ (by exact Q0) (by exact Q2)
           refine B3 (r74 R.nd h1_2 (R.sl.getD i Slt0).bd (by omega)) rfl j2 ?_ ?_ <;> intro h7_13
           ·(apply C9 (vs := [.int _ _, .int _ _, .int _ _, .bool _, _, _, _, _]) j2; exact Q0; exact Q2; rfl; exact kb; rfl)
            refine A2 ?_ (by exact Q0) (by exact Q2)
            refine sd ⟨by exact Q9, by exact Q9⟩ ?_
            refine B3 (r75 R h1_2 (R.sl.getD i Slt0).pr 2 ((i : Int) + 1) (hS1 i (by omega))) rfl j2 ?_ ?_ <;> intro h7_23
            ·(apply C9 (vs := [.int _ _, .int _ _, .int _ _, .bool _, _, _, _, _]) j2; exact Q0; exact Q2; rfl; exact kb; rfl)
             refine A2 ?_ (by exact Q0) (by exact Q2)
             refine sd ⟨by exact Q9, by exact Q9⟩ ?_
             refine B3 (r75 R h1_2 (R.sl.getD i Slt0).cm 3 ((i : Int) + 1) (hS2 i (by omega))) rfl j2 ?_ ?_ <;> intro h7_32
             ·refine A2 ?_ (by exact Q0) (by exact Q2)
              (refine A7 (C5 (by first | rfl | assumption | exact Q6) rfl ?_))
              (apply est (u := .agg [.str _, _]) j3; exact Q0; exact Q2; exact j4; exact kb; rfl)
              refine A2 ?_ (by exact Q0) (by exact Q2)
              refine br ?_ ?_ <;> intro h10_3
              ·refine A2 ?_ (by exact Q0) (by exact Q2)
               refine br ?_ ?_ <;> intro h11_2
               ·refine B0 rfl ?_; rintro ⟨_, _, q3, _⟩; have := q3 i (by omega) (fun q => h11_2 q.1); have := hce ⟨h1_2, this.1⟩; omega
               ·refine sd ⟨by exact Q9, by exact Q9⟩ ?_
                exact D5 (ih (i + 1, m + 1 + 1) ⟨by dsimp only; omega, by dsimp only; omega, D2 u2 ⟨fun q => by first | exact absurd q h7_7 | exact ⟨by omega, h7_13⟩, h7_23, h7_32⟩, D2 u3 (fun q => by first | exact ⟨h13_3, by omega, by omega⟩ | exact absurd ⟨Classical.not_not.1 h11_2, by omega⟩ q)⟩ (by dsimp only; omega)) (by (repeat first | exact LE.nil _ | refine LE.unk _ _ ?_ | refine LE.eq _ _ _ rfl ?_)) (by (repeat first | exact A5 | (refine A6 ?_ ?_; exact H8))) (Nat.le_refl _)
              ·have hq0 := ctP h1_2 (c := R.cs.getD i Ct0)
               refine A2 ?_ (by exact Q0) (by exact Q2)
               (apply C9 (vs := [.str _, _]) j2; exact Q0; exact Q2; rfl; exact kb; rfl)
               refine B3 (r76 R.nd h1_2 (R.cs.getD i Ct0) false) rfl j2 ?_ ?_ <;> intro h13_3
               ·refine A2 ?_ (by exact Q0) (by exact Q2)
                (refine A7 (C5 (by first | rfl | assumption | exact Q6) rfl ?_))
                refine sd ⟨by exact Q9, by exact Q9⟩ ?_
                refine br ?_ ?_ <;> intro h13_13
                ·refine B0 rfl ?_; rintro ⟨_, _, q3, _⟩; obtain ⟨e1, e2, e3⟩ := q3 i (by omega) (fun q => absurd q.2 (by omega)); first | exact h13_3 e1 | omega
                ·refine A2 ?_ (by exact Q0) (by exact Q2)
                 (refine A7 (C5 (by first | rfl | assumption | exact Q6) rfl ?_))
                 refine A2 ?_ (by exact Q0) (by exact Q2)
                 refine br ?_ ?_ <;> intro h13_23
                 ·refine B0 rfl ?_; rintro ⟨_, _, q3, _⟩; obtain ⟨e1, e2, e3⟩ := q3 i (by omega) (fun q => absurd q.2 (by omega)); first | exact h13_3 e1 | omega
                 ·refine sd ⟨by exact Q9, by exact Q9⟩ ?_
                  exact D5 (ih (i + 1, m + 1 + 1) ⟨by dsimp only; omega, by dsimp only; omega, D2 u2 ⟨fun q => by first | exact absurd q h7_7 | exact ⟨by omega, h7_13⟩, h7_23, h7_32⟩, D2 u3 (fun q => by first | exact ⟨h13_3, by omega, by omega⟩ | exact absurd ⟨Classical.not_not.1 h11_2, by omega⟩ q)⟩ (by dsimp only; omega)) (by (repeat first | exact LE.nil _ | refine LE.unk _ _ ?_ | refine LE.eq _ _ _ rfl ?_)) (by (repeat first | exact A5 | (refine A6 ?_ ?_; exact H8))) (Nat.le_refl _)
               ·refine B0 rfl ?_; rintro ⟨_, _, q3, _⟩; obtain ⟨e1, e2, e3⟩ := q3 i (by omega) (fun q => absurd q.2 (by omega)); first | exact h13_3 e1 | omega
             ·refine B0 rfl ?_; rintro ⟨_, q2, _⟩; obtain ⟨e1, e2, e3⟩ := q2 i (by omega); first | exact h7_23 e2 | exact h7_32 e3 | exact h7_13 (e1 h7_7).2 | (have := e1 (fun e => by rw [e] at h7_3; exact absurd h7_3 (by decide)); omega)
            ·refine B0 rfl ?_; rintro ⟨_, q2, _⟩; obtain ⟨e1, e2, e3⟩ := q2 i (by omega); first | exact h7_23 e2 | exact h7_32 e3 | exact h7_13 (e1 h7_7).2 | (have := e1 (fun e => by rw [e] at h7_3; exact absurd h7_3 (by decide)); omega)
           ·refine B0 rfl ?_; rintro ⟨_, q2, _⟩; obtain ⟨e1, e2, e3⟩ := q2 i (by omega); first | exact h7_23 e2 | exact h7_32 e3 | exact h7_13 (e1 h7_7).2 | (have := e1 (fun e => by rw [e] at h7_3; exact absurd h7_3 (by decide)); omega)
          ·(apply C9 (vs := [.int _ _, .int _ _, .int _ _, .bool _, _, _, _, _]) j2; exact Q0; exact Q2; rfl; exact kb; rfl)
           refine A2 ?_ (by exact Q0) (by exact Q2)
           refine sd ⟨by exact Q9, by exact Q9⟩ ?_
           refine B3 (r75 R h1_2 (R.sl.getD i Slt0).pr 2 ((i : Int) + 1) (hS1 i (by omega))) rfl j2 ?_ ?_ <;> intro h7_23
           ·(apply C9 (vs := [.int _ _, .int _ _, .int _ _, .bool _, _, _, _, _]) j2; exact Q0; exact Q2; rfl; exact kb; rfl)
            refine A2 ?_ (by exact Q0) (by exact Q2)
            refine sd ⟨by exact Q9, by exact Q9⟩ ?_
            refine B3 (r75 R h1_2 (R.sl.getD i Slt0).cm 3 ((i : Int) + 1) (hS2 i (by omega))) rfl j2 ?_ ?_ <;> intro h7_32
            ·refine A2 ?_ (by exact Q0) (by exact Q2)
             (refine A7 (C5 (by first | rfl | assumption | exact Q6) rfl ?_))
             (apply est (u := .agg [.str _, _]) j3; exact Q0; exact Q2; exact j4; exact kb; rfl)
             refine A2 ?_ (by exact Q0) (by exact Q2)
             refine br ?_ ?_ <;> intro h10_3
             ·refine A2 ?_ (by exact Q0) (by exact Q2)
              refine br ?_ ?_ <;> intro h11_2
              ·refine B0 rfl ?_; rintro ⟨_, _, q3, _⟩; have := q3 i (by omega) (fun q => h11_2 q.1); have := hce ⟨h1_2, this.1⟩; omega
              ·refine sd ⟨by exact Q9, by exact Q9⟩ ?_
               exact D5 (ih (i + 1, m + 1 + 1) ⟨by dsimp only; omega, by dsimp only; omega, D2 u2 ⟨fun q => by first | exact absurd q h7_7 | exact ⟨by omega, h7_13⟩, h7_23, h7_32⟩, D2 u3 (fun q => by first | exact ⟨h13_3, by omega, by omega⟩ | exact absurd ⟨Classical.not_not.1 h11_2, by omega⟩ q)⟩ (by dsimp only; omega)) (by (repeat first | exact LE.nil _ | refine LE.unk _ _ ?_ | refine LE.eq _ _ _ rfl ?_)) (by (repeat first | exact A5 | (refine A6 ?_ ?_; exact H8))) (Nat.le_refl _)
             ·have hq0 := ctP h1_2 (c := R.cs.getD i Ct0)
              refine A2 ?_ (by exact Q0) (by exact Q2)
              (apply C9 (vs := [.str _, _]) j2; exact Q0; exact Q2; rfl; exact kb; rfl)
              refine B3 (r76 R.nd h1_2 (R.cs.getD i Ct0) false) rfl j2 ?_ ?_ <;> intro h13_3
              ·refine A2 ?_ (by exact Q0) (by exact Q2)
               (refine A7 (C5 (by first | rfl | assumption | exact Q6) rfl ?_))
               refine sd ⟨by exact Q9, by exact Q9⟩ ?_
               refine br ?_ ?_ <;> intro h13_13
               ·refine B0 rfl ?_; rintro ⟨_, _, q3, _⟩; obtain ⟨e1, e2, e3⟩ := q3 i (by omega) (fun q => absurd q.2 (by omega)); first | exact h13_3 e1 | omega
               ·refine A2 ?_ (by exact Q0) (by exact Q2)
                (refine A7 (C5 (by first | rfl | assumption | exact Q6) rfl ?_))
                refine A2 ?_ (by exact Q0) (by exact Q2)
                refine br ?_ ?_ <;> intro h13_23
                ·refine B0 rfl ?_; rintro ⟨_, _, q3, _⟩; obtain ⟨e1, e2, e3⟩ := q3 i (by omega) (fun q => absurd q.2 (by omega)); first | exact h13_3 e1 | omega
                ·refine sd ⟨by exact Q9, by exact Q9⟩ ?_
                 exact D5 (ih (i + 1, m + 1 + 1) ⟨by dsimp only; omega, by dsimp only; omega, D2 u2 ⟨fun q => by first | exact absurd q h7_7 | exact ⟨by omega, h7_13⟩, h7_23, h7_32⟩, D2 u3 (fun q => by first | exact ⟨h13_3, by omega, by omega⟩ | exact absurd ⟨Classical.not_not.1 h11_2, by omega⟩ q)⟩ (by dsimp only; omega)) (by (repeat first | exact LE.nil _ | refine LE.unk _ _ ?_ | refine LE.eq _ _ _ rfl ?_)) (by (repeat first | exact A5 | (refine A6 ?_ ?_; exact H8))) (Nat.le_refl _)
              ·refine B0 rfl ?_; rintro ⟨_, _, q3, _⟩; obtain ⟨e1, e2, e3⟩ := q3 i (by omega) (fun q => absurd q.2 (by omega)); first | exact h13_3 e1 | omega
            ·refine B0 rfl ?_; rintro ⟨_, q2, _⟩; obtain ⟨e1, e2, e3⟩ := q2 i (by omega); first | exact h7_23 e2 | exact h7_32 e3 | exact h7_13 (e1 h7_7).2 | (have := e1 (fun e => by rw [e] at h7_3; exact absurd h7_3 (by decide)); omega)
           ·refine B0 rfl ?_; rintro ⟨_, q2, _⟩; obtain ⟨e1, e2, e3⟩ := q2 i (by omega); first | exact h7_23 e2 | exact h7_32 e3 | exact h7_13 (e1 h7_7).2 | (have := e1 (fun e => by rw [e] at h7_3; exact absurd h7_3 (by decide)); omega)
        ·refine B4 (fun (a : Nat) => [.unk, .ptr 0 0 0, .unk, .unk, .unk, .unk, .int .i64 a]) (fun (a : Nat) => hp [(0, ⟨[[.int .i64 R.id, .int .i64 R.nd, .int .i64 R.vw, .bool R.ac, .sl false false (R.sl.map Slt.T), .sl false false (R.cs.map (Ct.T false)), .sl false false (R.lg.map tT), .sl false false (R.ch.map Msg.T)]], 8, 54⟩)]) (fun (a : Nat) => m) (fun (a : Nat) => a ≤ R.lg.length ∧ ∀ j, j < a → lgOK R.nd (R.lg.getD j ⟨#[]⟩)) (fun (a : Nat) => R.lg.length - a) 0 ?_ ?_ ?_ ?_ ?_
         ·exact ⟨Nat.zero_le _, E7⟩
         ·(repeat first | exact LE.nil _ | refine LE.unk _ _ ?_ | refine LE.eq _ _ _ rfl ?_)
         ·(repeat first | exact A5 | (refine A6 ?_ ?_; exact H8))
         ·exact Nat.le_refl _
         intro i3 hI ih
         obtain ⟨w0, w2⟩ := hI
         have hzz : (R.lg.getD ((i3 : Int)).toNat (⟨#[]⟩ : ByteArray)).size = (R.lg.getD i3 (⟨#[]⟩ : ByteArray)).size := rfl
         refine A4 (st := []) ?_
         refine A2 ?_ (by exact Q0) (by exact Q2)
         refine br ?_ ?_ <;> intro h16_4
         ·refine A2 ?_ (by exact Q0) (by exact Q2)
          (refine A7 (C5 (by first | rfl | assumption | exact Q6) rfl ?_))
          refine br ?_ ?_ <;> intro h18_6
          ·refine B0 rfl ?_; rintro ⟨_, _, _, q4, _⟩; obtain ⟨e1, e2⟩ := q4 i3 (by omega); first | omega | exact h18_15 e2
          ·refine A2 ?_ (by exact Q0) (by exact Q2)
           refine A2 ?_ (by exact Q0) (by exact Q2)
           (refine A7 (C5 (by first | rfl | assumption | exact Q6) rfl ?_))
           refine B3 (r74 R.nd h1_2 (R.lg.getD i3 ⟨#[]⟩) (by omega)) rfl j2 ?_ ?_ <;> intro h18_15
           ·refine sd ⟨by exact Q9, by exact Q9⟩ ?_
            exact D5 (ih (i3 + 1) ⟨by omega, D2 w2 ⟨by omega, h18_15⟩⟩ (by omega)) (by (repeat first | exact LE.nil _ | refine LE.unk _ _ ?_ | refine LE.eq _ _ _ rfl ?_)) (by (repeat first | exact A5 | (refine A6 ?_ ?_; exact H8))) (Nat.le_refl _)
           ·refine B0 rfl ?_; rintro ⟨_, _, _, q4, _⟩; obtain ⟨e1, e2⟩ := q4 i3 (by omega); first | omega | exact h18_15 e2
         ·refine B4 (fun (a : Nat × Nat) => [.unk, .ptr 0 0 0, .unk, .unk, .unk, .unk, .unk, .int .i64 a.1]) (fun (a : Nat × Nat) => hp [(0, ⟨[[.int .i64 R.id, .int .i64 R.nd, .int .i64 R.vw, .bool R.ac, .sl false false (R.sl.map Slt.T), .sl false false (R.cs.map (Ct.T false)), .sl false false (R.lg.map tT), .sl false false (R.ch.map Msg.T)]], 8, 54⟩)]) (fun (a : Nat × Nat) => a.2) (fun (a : Nat × Nat) => a.1 ≤ R.ch.length ∧ 1 ≤ a.2 ∧ ∀ j, j < a.1 → chOK R.nd R.vw R.ch j) (fun (a : Nat × Nat) => R.ch.length - a.1) (0, m) ?_ ?_ ?_ ?_ ?_
          ·exact ⟨Nat.zero_le _, u1, E7⟩
          ·(repeat first | exact LE.nil _ | refine LE.unk _ _ ?_ | refine LE.eq _ _ _ rfl ?_)
          ·(repeat first | exact A5 | (refine A6 ?_ ?_; exact H8))
          ·exact Nat.le_refl _
          intro ⟨i4, m4⟩ hI ih
          obtain ⟨x0, x1, x2⟩ := hI
          dsimp only at x0 x1 x2 ⊢
          refine A4 (st := []) ?_
          refine A2 ?_ (by exact Q0) (by exact Q2)
          refine br ?_ ?_ <;> intro h21_4
          ·refine A2 ?_ (by exact Q0) (by exact Q2)
           (refine A7 (C5 (by first | rfl | assumption | exact Q6) rfl ?_))
           (apply est (u := .agg [.int _ _, .int _ _, .int _ _, .int _ _, .str _, .str _, .str _]) j3; exact Q0; exact Q2; exact j4; exact kb; rfl)
           refine A2 ?_ (by exact Q0) (by exact Q2)
           (apply C9 (vs := [.int _ _, .int _ _, .int _ _, .int _ _, .str _, .str _, .str _]) j2; exact Q0; exact Q2; rfl; exact kb; rfl)
           refine C1 (r77 R.nd h1_2 (R.ch.getD i4 Msg0)) rfl rfl rfl ?_
           refine brB ?_ ?_ <;> intro h24_6
           ·refine A2 ?_ (by exact Q0) (by exact Q2)
            refine A2 ?_ (by exact Q0) (by exact Q2)
            refine br ?_ ?_ <;> intro h25_7
            ·refine B0 rfl ?_; rintro ⟨_, _, _, _, q5⟩; obtain ⟨e1, e2, e3, e4⟩ := q5 i4 (by omega); first | exact of_decide_eq_false h24_6 e1 | omega | (have := e4 (by omega); omega)
            ·refine A2 ?_ (by exact Q0) (by exact Q2)
             refine A2 ?_ (by exact Q0) (by exact Q2)
             (refine A7 (C5 (by first | rfl | assumption | exact Q6) rfl ?_))
             refine br ?_ ?_ <;> intro h25_17
             ·refine B0 rfl ?_; rintro ⟨_, _, _, _, q5⟩; obtain ⟨e1, e2, e3, e4⟩ := q5 i4 (by omega); first | exact of_decide_eq_false h24_6 e1 | omega | (have := e4 (by omega); omega)
             ·refine br ?_ ?_ <;> intro h25_21
              ·refine A2 ?_ (by exact Q0) (by exact Q2)
               refine sd ⟨by exact Q9, by exact Q9⟩ ?_
               (refine A7 (C5 (by first | rfl | assumption | exact Q6) rfl ?_))
               refine A2 ?_ (by exact Q0) (by exact Q2)
               refine br ?_ ?_ <;> intro h25_32
               ·refine B0 rfl ?_; rintro ⟨_, _, _, _, q5⟩; obtain ⟨e1, e2, e3, e4⟩ := q5 i4 (by omega); first | exact of_decide_eq_false h24_6 e1 | omega | (have := e4 (by omega); omega)
               ·refine sd ⟨by exact Q9, by exact Q9⟩ ?_
                exact D5 (ih (i4 + 1, m4 + 1) ⟨by dsimp only; omega, by dsimp only; omega, D2 x2 ⟨of_decide_eq_true h24_6, by omega, by omega, fun _ => by omega⟩⟩ (by dsimp only; omega)) (by (repeat first | exact LE.nil _ | refine LE.unk _ _ ?_ | refine LE.eq _ _ _ rfl ?_)) (by (repeat first | exact A5 | (refine A6 ?_ ?_; exact H8))) (Nat.le_refl _)
              ·refine sd ⟨by exact Q9, by exact Q9⟩ ?_
               exact D5 (ih (i4 + 1, m4 + 1) ⟨by dsimp only; omega, by dsimp only; omega, D2 x2 ⟨of_decide_eq_true h24_6, by omega, by omega, fun _ => by omega⟩⟩ (by dsimp only; omega)) (by (repeat first | exact LE.nil _ | refine LE.unk _ _ ?_ | refine LE.eq _ _ _ rfl ?_)) (by (repeat first | exact A5 | (refine A6 ?_ ?_; exact H8))) (Nat.le_refl _)
           ·refine B0 rfl ?_; rintro ⟨_, _, _, _, q5⟩; obtain ⟨e1, e2, e3, e4⟩ := q5 i4 (by omega); first | exact of_decide_eq_false h24_6 e1 | omega | (have := e4 (by omega); omega)
          ·refine B8 rfl ?_; exact ⟨⟨h1_2, h1_10, h1_16, by omega, by omega, by omega, by omega⟩, fun j hj => u2 j (by omega), fun j hj => u3 j (by omega), fun j hj => w2 j (by omega), fun j hj => x2 j (by omega)⟩
   ·refine B0 rfl ?_; rintro ⟨⟨q1, q2, q3, q4, q5, q6, q7⟩, _⟩; first | exact h1_2 q1 | exact h1_10 q2 | exact h1_16 q3 | omega
  ·refine B0 rfl ?_; rintro ⟨⟨q1, q2, q3, q4, q5, q6, q7⟩, _⟩; first | exact h1_2 q1 | exact h1_10 q2 | exact h1_16 q3 | omega
 ·refine B0 rfl ?_; rintro ⟨⟨q1, q2, q3, q4, q5, q6, q7⟩, _⟩; first | exact h1_2 q1 | exact h1_10 q2 | exact h1_16 q3 | omega
open Go.V
set_option linter.unusedVariables false
set_option linter.unusedSimpArgs false
set_option maxRecDepth 20000
set_option maxHeartbeats 4000000
theorem r92 (n : Int) (hn : nodes n) (F : List Int) (b : Bool) (hF : F.length ≤ 1048576) : Pure En 92 [.one (.int .i64 n), .one (.sl b (F.map iT))] [.one (.bool (decide (fyOK n F)))] := by
 have hl : (F.map iT).length = F.length := List.length_map ..
 rcases hn with rfl | rfl | rfl
 ·refine Pure.of_ev (st := []) Tryz.func92 rfl kb ?_
  refine A7 ?_
  refine A7 ?_
  refine br ?_ ?_ <;> intro h1_5
  ·have hk : IntKind.i64.wrap (Int.tdiv (1 - 1) 3) = 0 := rfl
   refine B0 rfl ?_; rintro ⟨q1, _⟩; omega
  ·have hk : IntKind.i64.wrap (Int.tdiv (1 - 1) 3) = 0 := rfl
   have hk2 : (F.length : Int) ≤ 0 := by omega
   refine C8 (fun (i : Nat) => [.int .i64 1, .sl false b (F.map iT), .unk, .unk, .unk, .int .i64 i]) (fun (i : Nat) => i ≤ F.length ∧ ∀ j, j < i → (0 ≤ F.getD j 0 ∧ F.getD j 0 ≤ 1 - 1) ∧ (0 < j → F.getD (j - 1) 0 < F.getD j 0)) (fun (i : Nat) => F.length - i) 0 ?_ ?_ ?_
   ·exact ⟨Nat.zero_le _, E7⟩
   ·(repeat first | exact LE.nil _ | refine LE.unk _ _ ?_ | refine LE.eq _ _ _ rfl ?_)
   intro i hI ih
   obtain ⟨u0, u2⟩ := hI
   refine A4 (st := []) ?_
   refine br ?_ ?_ <;> intro h4_3
   ·(refine A7 (C5 (by first | rfl | assumption | exact Q15) rfl ?_))
    refine A7 ?_
    refine B3 (s50 _ _ _) rfl j2 ?_ ?_ <;> intro h6_6
    ·refine br ?_ ?_ <;> intro h6_10
     ·refine A7 ?_
      (refine A7 (C5 (by first | rfl | assumption | exact Q15) rfl ?_))
      (refine A7 (C5 (by first | rfl | assumption | exact Q15) rfl ?_))
      refine br ?_ ?_ <;> intro h6_21
      ·refine B0 rfl ?_; rintro ⟨_, q⟩; obtain ⟨e1, e2⟩ := q i (by omega); first | exact h6_6 e1 | (have := e2 (by omega); omega)
      ·refine A7 ?_
       exact T3 (ih (i + 1) ⟨by omega, D2 u2 ⟨h6_6, fun _ => by omega⟩⟩ (by omega)) (by (repeat first | exact LE.nil _ | refine LE.unk _ _ ?_ | refine LE.eq _ _ _ rfl ?_))
     ·refine A7 ?_
      exact T3 (ih (i + 1) ⟨by omega, D2 u2 ⟨h6_6, fun _ => by omega⟩⟩ (by omega)) (by (repeat first | exact LE.nil _ | refine LE.unk _ _ ?_ | refine LE.eq _ _ _ rfl ?_))
    ·refine B0 rfl ?_; rintro ⟨_, q⟩; obtain ⟨e1, e2⟩ := q i (by omega); first | exact h6_6 e1 | (have := e2 (by omega); omega)
   ·refine B8 rfl ?_; exact ⟨by omega, fun j hj => u2 j (by omega)⟩
 ·refine Pure.of_ev (st := []) Tryz.func92 rfl kb ?_
  refine A7 ?_
  refine A7 ?_
  refine br ?_ ?_ <;> intro h1_5
  ·have hk : IntKind.i64.wrap (Int.tdiv (4 - 1) 3) = 1 := rfl
   refine B0 rfl ?_; rintro ⟨q1, _⟩; omega
  ·have hk : IntKind.i64.wrap (Int.tdiv (4 - 1) 3) = 1 := rfl
   have hk2 : (F.length : Int) ≤ 1 := by omega
   refine C8 (fun (i : Nat) => [.int .i64 4, .sl false b (F.map iT), .unk, .unk, .unk, .int .i64 i]) (fun (i : Nat) => i ≤ F.length ∧ ∀ j, j < i → (0 ≤ F.getD j 0 ∧ F.getD j 0 ≤ 4 - 1) ∧ (0 < j → F.getD (j - 1) 0 < F.getD j 0)) (fun (i : Nat) => F.length - i) 0 ?_ ?_ ?_
   ·exact ⟨Nat.zero_le _, E7⟩
   ·(repeat first | exact LE.nil _ | refine LE.unk _ _ ?_ | refine LE.eq _ _ _ rfl ?_)
   intro i hI ih
   obtain ⟨u0, u2⟩ := hI
   refine A4 (st := []) ?_
   refine br ?_ ?_ <;> intro h4_3
   ·(refine A7 (C5 (by first | rfl | assumption | exact Q15) rfl ?_))
    refine A7 ?_
    refine B3 (s50 _ _ _) rfl j2 ?_ ?_ <;> intro h6_6
    ·refine br ?_ ?_ <;> intro h6_10
     ·refine A7 ?_
      (refine A7 (C5 (by first | rfl | assumption | exact Q15) rfl ?_))
      (refine A7 (C5 (by first | rfl | assumption | exact Q15) rfl ?_))
      refine br ?_ ?_ <;> intro h6_21
      ·refine B0 rfl ?_; rintro ⟨_, q⟩; obtain ⟨e1, e2⟩ := q i (by omega); first | exact h6_6 e1 | (have := e2 (by omega); omega)
      ·refine A7 ?_
       exact T3 (ih (i + 1) ⟨by omega, D2 u2 ⟨h6_6, fun _ => by omega⟩⟩ (by omega)) (by (repeat first | exact LE.nil _ | refine LE.unk _ _ ?_ | refine LE.eq _ _ _ rfl ?_))
     ·refine A7 ?_
      exact T3 (ih (i + 1) ⟨by omega, D2 u2 ⟨h6_6, fun _ => by omega⟩⟩ (by omega)) (by (repeat first | exact LE.nil _ | refine LE.unk _ _ ?_ | refine LE.eq _ _ _ rfl ?_))
    ·refine B0 rfl ?_; rintro ⟨_, q⟩; obtain ⟨e1, e2⟩ := q i (by omega); first | exact h6_6 e1 | (have := e2 (by omega); omega)
   ·refine B8 rfl ?_; exact ⟨by omega, fun j hj => u2 j (by omega)⟩
 ·refine Pure.of_ev (st := []) Tryz.func92 rfl kb ?_
  refine A7 ?_
  refine A7 ?_
  refine br ?_ ?_ <;> intro h1_5
  ·have hk : IntKind.i64.wrap (Int.tdiv (7 - 1) 3) = 2 := rfl
   refine B0 rfl ?_; rintro ⟨q1, _⟩; omega
  ·have hk : IntKind.i64.wrap (Int.tdiv (7 - 1) 3) = 2 := rfl
   have hk2 : (F.length : Int) ≤ 2 := by omega
   refine C8 (fun (i : Nat) => [.int .i64 7, .sl false b (F.map iT), .unk, .unk, .unk, .int .i64 i]) (fun (i : Nat) => i ≤ F.length ∧ ∀ j, j < i → (0 ≤ F.getD j 0 ∧ F.getD j 0 ≤ 7 - 1) ∧ (0 < j → F.getD (j - 1) 0 < F.getD j 0)) (fun (i : Nat) => F.length - i) 0 ?_ ?_ ?_
   ·exact ⟨Nat.zero_le _, E7⟩
   ·(repeat first | exact LE.nil _ | refine LE.unk _ _ ?_ | refine LE.eq _ _ _ rfl ?_)
   intro i hI ih
   obtain ⟨u0, u2⟩ := hI
   refine A4 (st := []) ?_
   refine br ?_ ?_ <;> intro h4_3
   ·(refine A7 (C5 (by first | rfl | assumption | exact Q15) rfl ?_))
    refine A7 ?_
    refine B3 (s50 _ _ _) rfl j2 ?_ ?_ <;> intro h6_6
    ·refine br ?_ ?_ <;> intro h6_10
     ·refine A7 ?_
      (refine A7 (C5 (by first | rfl | assumption | exact Q15) rfl ?_))
      (refine A7 (C5 (by first | rfl | assumption | exact Q15) rfl ?_))
      refine br ?_ ?_ <;> intro h6_21
      ·refine B0 rfl ?_; rintro ⟨_, q⟩; obtain ⟨e1, e2⟩ := q i (by omega); first | exact h6_6 e1 | (have := e2 (by omega); omega)
      ·refine A7 ?_
       exact T3 (ih (i + 1) ⟨by omega, D2 u2 ⟨h6_6, fun _ => by omega⟩⟩ (by omega)) (by (repeat first | exact LE.nil _ | refine LE.unk _ _ ?_ | refine LE.eq _ _ _ rfl ?_))
     ·refine A7 ?_
      exact T3 (ih (i + 1) ⟨by omega, D2 u2 ⟨h6_6, fun _ => by omega⟩⟩ (by omega)) (by (repeat first | exact LE.nil _ | refine LE.unk _ _ ?_ | refine LE.eq _ _ _ rfl ?_))
    ·refine B0 rfl ?_; rintro ⟨_, q⟩; obtain ⟨e1, e2⟩ := q i (by omega); first | exact h6_6 e1 | (have := e2 (by omega); omega)
   ·refine B8 rfl ?_; exact ⟨by omega, fun j hj => u2 j (by omega)⟩
theorem r32 (G : Grp) (hb : TBs 1048576 G.T) : Pure En 32 [.agg G.T] [.one (.bool (decide G.OK))] := by
 obtain ⟨hF, hR0, hR, hW, hS⟩ := Grp.sm hb
 have hl1 : (G.fa.map iT).length = G.fa.length := List.length_map ..
 have hl2 : (G.rs.map Rep.T).length = G.rs.length := List.length_map ..
 have hl3 : (G.wi.map Pc.T).length = G.wi.length := List.length_map ..
 have hl4 : (G.se.map Msg.T).length = G.se.length := List.length_map ..
 refine Pure.of_ev (st := []) Tryz.func32 rfl kb ?_
 refine A2 ?_ (by exact Q0) (by exact Q2)
 refine B3 (s49 G.nd) rfl j2 ?_ ?_ <;> intro h1_2
 ·refine A2 ?_ (by exact Q0) (by exact Q2)
  refine A2 ?_ (by exact Q0) (by exact Q2)
  refine B3 (r92 G.nd h1_2 G.fa false hF) rfl j2 ?_ ?_ <;> intro h1_9
  ·refine A2 ?_ (by exact Q0) (by exact Q2)
   refine A2 ?_ (by exact Q0) (by exact Q2)
   refine br ?_ ?_ <;> intro h1_18
   ·refine B0 rfl ?_; rintro ⟨⟨q1, q2, q3, q4, q5⟩, _⟩; first | exact h1_2 q1 | exact h1_9 q2 | omega
   ·refine A2 ?_ (by exact Q0) (by exact Q2)
    refine br ?_ ?_ <;> intro h1_24
    ·refine B0 rfl ?_; rintro ⟨⟨q1, q2, q3, q4, q5⟩, _⟩; first | exact h1_2 q1 | exact h1_9 q2 | omega
    ·refine A2 ?_ (by exact Q0) (by exact Q2)
     refine br ?_ ?_ <;> intro h1_30
     ·refine B0 rfl ?_; rintro ⟨⟨q1, q2, q3, q4, q5⟩, _⟩; first | exact h1_2 q1 | exact h1_9 q2 | omega
     ·refine B4 (fun (i : Nat) => [.unk, .ptr 0 0 0, .unk, .int .i64 i]) (fun (i : Nat) => hp [(0, ⟨[[.int .i64 G.nd, .sl false false (G.fa.map iT), .sl false false (G.rs.map Rep.T), .sl false false (G.wi.map Pc.T), .sl false false (G.se.map Msg.T)]], 5, 67⟩)]) (fun (i : Nat) => 1) (fun (i : Nat) => i ≤ G.rs.length ∧ ∀ j, j < i → rsOK G.nd G.rs j) (fun (i : Nat) => G.rs.length - i) 0 ?_ ?_ ?_ ?_ ?_
      ·exact ⟨Nat.zero_le _, E7⟩
      ·(repeat first | exact LE.nil _ | refine LE.unk _ _ ?_ | refine LE.eq _ _ _ rfl ?_)
      ·(repeat first | exact A5 | (refine A6 ?_ ?_; exact H8))
      ·exact Nat.le_refl _
      intro i hI ih
      obtain ⟨u0, u2⟩ := hI
      refine A4 (st := []) ?_
      refine A2 ?_ (by exact Q0) (by exact Q2)
      refine br ?_ ?_ <;> intro h4_3
      ·refine A2 ?_ (by exact Q0) (by exact Q2)
       (refine A7 (C5 (by first | rfl | assumption | exact Q25) rfl ?_))
       refine br ?_ ?_ <;> intro h6_7
       ·refine B0 rfl ?_; rintro ⟨_, q2, _⟩; obtain ⟨e1, e2, e3⟩ := q2 i (by omega); first | omega | exact h6_25 e3
       ·refine A2 ?_ (by exact Q0) (by exact Q2)
        (refine A7 (C5 (by first | rfl | assumption | exact Q25) rfl ?_))
        refine A2 ?_ (by exact Q0) (by exact Q2)
        refine br ?_ ?_ <;> intro h6_17
        ·refine B0 rfl ?_; rintro ⟨_, q2, _⟩; obtain ⟨e1, e2, e3⟩ := q2 i (by omega); first | omega | exact h6_25 e3
        ·refine A2 ?_ (by exact Q0) (by exact Q2)
         (refine A7 (C5 (by first | rfl | assumption | exact Q25) rfl ?_))
         refine B3 (r27 (G.rs.getD i Rep0) (hR i (by omega))) rfl j2 ?_ ?_ <;> intro h6_25
         ·refine sd ⟨by exact Q9, by exact Q9⟩ ?_
          exact D5 (ih (i + 1) ⟨by omega, D2 u2 ⟨by omega, by omega, h6_25⟩⟩ (by omega)) (by (repeat first | exact LE.nil _ | refine LE.unk _ _ ?_ | refine LE.eq _ _ _ rfl ?_)) (by (repeat first | exact A5 | (refine A6 ?_ ?_; exact H8))) (Nat.le_refl _)
         ·refine B0 rfl ?_; rintro ⟨_, q2, _⟩; obtain ⟨e1, e2, e3⟩ := q2 i (by omega); first | omega | exact h6_25 e3
      ·refine B4 (fun (i2 : Nat) => [.unk, .ptr 0 0 0, .unk, .unk, .int .i64 i2]) (fun (i2 : Nat) => hp [(0, ⟨[[.int .i64 G.nd, .sl false false (G.fa.map iT), .sl false false (G.rs.map Rep.T), .sl false false (G.wi.map Pc.T), .sl false false (G.se.map Msg.T)]], 5, 67⟩)]) (fun (i2 : Nat) => 1) (fun (i2 : Nat) => i2 ≤ G.wi.length ∧ ∀ j, j < i2 → pcOK G.nd (G.wi.getD j Pc0)) (fun (i2 : Nat) => G.wi.length - i2) 0 ?_ ?_ ?_ ?_ ?_
       ·exact ⟨Nat.zero_le _, E7⟩
       ·(repeat first | exact LE.nil _ | refine LE.unk _ _ ?_ | refine LE.eq _ _ _ rfl ?_)
       ·(repeat first | exact A5 | (refine A6 ?_ ?_; exact H8))
       ·exact Nat.le_refl _
       intro i2 hI ih
       obtain ⟨v0, v2⟩ := hI
       refine A4 (st := []) ?_
       refine A2 ?_ (by exact Q0) (by exact Q2)
       refine br ?_ ?_ <;> intro h9_4
       ·refine A2 ?_ (by exact Q0) (by exact Q2)
        (refine A7 (C5 (by first | rfl | assumption | exact Q25) rfl ?_))
        refine A2 ?_ (by exact Q0) (by exact Q2)
        refine sd ⟨by exact Q9, by exact Q9⟩ ?_
        refine B3 (s50 _ _ _) rfl j2 ?_ ?_ <;> intro h11_9
        ·refine A2 ?_ (by exact Q0) (by exact Q2)
         refine A2 ?_ (by exact Q0) (by exact Q2)
         (refine A7 (C5 (by first | rfl | assumption | exact Q25) rfl ?_))
         refine B3 (r93 G.nd (G.wi.getD i2 Pc0).ms) rfl j2 ?_ ?_ <;> intro h11_20
         ·refine sd ⟨by exact Q9, by exact Q9⟩ ?_
          exact D5 (ih (i2 + 1) ⟨by omega, D2 v2 ⟨h11_9, h11_20⟩⟩ (by omega)) (by (repeat first | exact LE.nil _ | refine LE.unk _ _ ?_ | refine LE.eq _ _ _ rfl ?_)) (by (repeat first | exact A5 | (refine A6 ?_ ?_; exact H8))) (Nat.le_refl _)
         ·refine B0 rfl ?_; rintro ⟨_, _, q3, _⟩; obtain ⟨e1, e2⟩ := q3 i2 (by omega); first | exact h11_9 e1 | exact h11_20 e2
        ·refine B0 rfl ?_; rintro ⟨_, _, q3, _⟩; obtain ⟨e1, e2⟩ := q3 i2 (by omega); first | exact h11_9 e1 | exact h11_20 e2
       ·refine B4 (fun (i3 : Nat) => [.unk, .ptr 0 0 0, .unk, .unk, .unk, .int .i64 i3]) (fun (i3 : Nat) => hp [(0, ⟨[[.int .i64 G.nd, .sl false false (G.fa.map iT), .sl false false (G.rs.map Rep.T), .sl false false (G.wi.map Pc.T), .sl false false (G.se.map Msg.T)]], 5, 67⟩)]) (fun (i3 : Nat) => 1) (fun (i3 : Nat) => i3 ≤ G.se.length ∧ ∀ j, j < i3 → sgM G.nd (G.se.getD j Msg0)) (fun (i3 : Nat) => G.se.length - i3) 0 ?_ ?_ ?_ ?_ ?_
        ·exact ⟨Nat.zero_le _, E7⟩
        ·(repeat first | exact LE.nil _ | refine LE.unk _ _ ?_ | refine LE.eq _ _ _ rfl ?_)
        ·(repeat first | exact A5 | (refine A6 ?_ ?_; exact H8))
        ·exact Nat.le_refl _
        intro i3 hI ih
        obtain ⟨w0, w2⟩ := hI
        refine A4 (st := []) ?_
        refine A2 ?_ (by exact Q0) (by exact Q2)
        refine br ?_ ?_ <;> intro h14_4
        ·refine A2 ?_ (by exact Q0) (by exact Q2)
         refine A2 ?_ (by exact Q0) (by exact Q2)
         (refine A7 (C5 (by first | rfl | assumption | exact Q25) rfl ?_))
         refine B3 (r93 G.nd (G.se.getD i3 Msg0)) rfl j2 ?_ ?_ <;> intro h16_7
         ·refine sd ⟨by exact Q9, by exact Q9⟩ ?_
          exact D5 (ih (i3 + 1) ⟨by omega, D2 w2 h16_7⟩ (by omega)) (by (repeat first | exact LE.nil _ | refine LE.unk _ _ ?_ | refine LE.eq _ _ _ rfl ?_)) (by (repeat first | exact A5 | (refine A6 ?_ ?_; exact H8))) (Nat.le_refl _)
         ·refine B0 rfl ?_; rintro ⟨_, _, _, q4⟩; exact h16_7 (q4 i3 (by omega))
        ·refine B8 rfl ?_; exact ⟨⟨h1_2, h1_9, by omega, by omega, by omega⟩, fun j hj => u2 j (by omega), fun j hj => v2 j (by omega), fun j hj => w2 j (by omega)⟩
  ·refine B0 rfl ?_; rintro ⟨⟨q1, q2, q3, q4, q5⟩, _⟩; first | exact h1_2 q1 | exact h1_9 q2 | omega
 ·refine B0 rfl ?_; rintro ⟨⟨q1, q2, q3, q4, q5⟩, _⟩; first | exact h1_2 q1 | exact h1_9 q2 | omega
theorem law6 (G : Grp) (hb : TBs 9223372036854775807 G.T) : Pure En 6 [.agg G.T] [.one (.bool true)] := by
 refine Pure.of_ev (st := []) Tryz.func6 rfl kb ?_
 (apply C9 (vs := [.int _ _, _, _, _, _]) j2; exact Q0; rfl; rfl; exact kb; rfl)
 refine I0 (lz31 G 1048576 (by omega) hb) rfl j2 ?_
 rintro x h2_2
 try dsimp only at h2_2
 have hX : 0 ≤ x → TBs 1048576 G.T := h2_2.2
 have hX1 := h2_2.1
 refine br ?_ ?_ <;> intro h3_1
 ·first | exact B7 rfl rfl | (exfalso; simp_all; done)
 ·(apply C9 (vs := [.int _ _, _, _, _, _]) j2; exact Q0; rfl; rfl; exact kb; rfl)
  refine C1 (lt33 G (hX (by omega))) rfl rfl rfl ?_
  refine B3 (r32 G (hX (by omega))) rfl j2 ?_ ?_ <;> intro h5_2
  ·(apply C9 (vs := [.int _ _, _, _, _, _]) j2; exact Q0; rfl; rfl; exact kb; rfl)
   refine C1 (lt33 G (hX (by omega))) rfl rfl rfl ?_
   (apply est (u := .agg [.int _ _, _, _, _, _]) j3; exact Q0; rfl; exact j4; exact kb; rfl)
   (apply C9 (vs := [.int _ _, _, _, _, _]) j2; exact Q0; rfl; rfl; exact kb; rfl)
   refine B3 (s34 G (hX (by omega))) rfl j2 ?_ ?_ <;> intro h7_1
   ·(apply C9 (vs := [.int _ _, _, _, _, _]) j2; exact Q0; rfl; rfl; exact kb; rfl)
    (apply C9 (vs := [.int _ _, _, _, _, _]) j2; exact Q0; rfl; rfl; exact kb; rfl)
    refine C1 (lt33 G (hX (by omega))) rfl rfl rfl ?_
    refine C1 (le35 G (hX (by omega))) rfl rfl rfl ?_
    first | exact B7 rfl rfl | (exfalso; simp_all; done)
   ·first | exact B7 rfl rfl | (exfalso; simp_all; done)
  ·(apply C9 (vs := [.int _ _, _, _, _, _]) j2; exact Q0; rfl; rfl; exact kb; rfl)
   refine C1 (lt33 G (hX (by omega))) rfl rfl rfl ?_
   (apply est (u := .agg [.int _ _, _, _, _, _]) j3; exact Q0; rfl; exact j4; exact kb; rfl)
   (apply C9 (vs := [.int _ _, _, _, _, _]) j2; exact Q0; rfl; rfl; exact kb; rfl)
   refine B3 (s34 G (hX (by omega))) rfl j2 ?_ ?_ <;> intro h7_1
   ·first | exact B7 rfl rfl | (exfalso; simp_all; done)
   ·(apply C9 (vs := [.int _ _, _, _, _, _]) j2; exact Q0; rfl; rfl; exact kb; rfl)
    (apply C9 (vs := [.int _ _, _, _, _, _]) j2; exact Q0; rfl; rfl; exact kb; rfl)
    refine C1 (lt33 G (hX (by omega))) rfl rfl rfl ?_
    refine C1 (le35 G (hX (by omega))) rfl rfl rfl ?_
    first | exact B7 rfl rfl | (exfalso; simp_all; done)
open Go Go.ClosedOfChecked
set_option linter.unusedVariables false
set_option maxRecDepth 20000
set_option maxHeartbeats 4000000
theorem joined_intro {P : Program} {f : FuncId} {fn : Func} {s : ChangeSpec} {c : OpenClaim} (a1 : c.wf (OpenSpec.ofChange s) = true) (a2 : laidOutB P = true) (a3 : mapsRowed P = true) (a4 : fn.params.all (P.readableRec ·) = true) (a5 : namedTie P c.named s.vars = true) (a6 : (c.stops == []) = true) (a7 : (P.stops == []) = true) (a8 : (c.knobs == []) = true) (a9 : (P.stopKnobs == []) = true) (b1 : (c.inPlace == P.inPlace f) = true) (b2 : (c.unfollowed == P.unfollowed f) = true) (b3 : (c.recurses == P.recurses f) = true) (b4 : (c.named == P.varsNamed f) = true) (b5 : (c.maps == (fn.params.toList ++ s.plain.varTypes P).any (P.mapsRec ·)) = true) (b6 : (c.ifaces == (fn.params.toList ++ s.plain.varTypes P).any (P.ifacesRec ·)) = true) (b7 : (c.mapsOut == P.mapsAmong fn.resultTypes.toList) = true) (b8 : (c.loops == (fn.params.toList ++ s.plain.varTypes P).any (P.loopsFrom ·)) = true) (b9 : (c.wideKeys == (fn.params.toList ++ s.plain.varTypes P ++ fn.resultTypes.toList).any (P.wideKeysFrom ·)) = true) (c1 : s.vars.all (P.varReadable ·) = true) (c2 : fn.resultTypes.all (fun t => P.readableRec t && decide (t < P.types.size)) = true) (c3 : (c.ifacesOut == fn.resultTypes.toList.any (P.ifacesRec ·)) = true) (c4 : (c.loopsOut == fn.resultTypes.toList.any (P.loopsFrom ·)) = true) (c5 : (c.plainKeys == P.plainKeys) = true) (c6 : c.shortTexts.isNone = true) (c7 : P.stopsHeard = true) (c8 : P.mayEnter = true) (c9 : (c.lifted == P.liftsFinal) = true) (d1 : (P.make == some c.make) = true) (d2 : (c.kinds == (if c.domain.isEmpty then [] else fn.params.toList.map fun t => match P.underlying t with | some (.int k) => some k | _ => none)) = true) (d3 : (c.pinned == c.pinnedBy) = true) (d4 : (c.veiled == (fn.params.toList ++ s.plain.varTypes P ++ fn.resultTypes.toList).any (P.veiledRec ·)) = true) (d5 : c.veiledFits P fn.params.toList (fn.params.toList ++ s.plain.varTypes P ++ fn.resultTypes.toList) = true) : joinedFacts P f fn s c = true := by
 unfold joinedFacts
 simp only [a1, a2, a3, a4, a5, a6, a7, a8, a9, b1, b2, b3, b4, b5, b6, b7, b8, b9, c1, c2, c3, c4, c5, c6, c7, c8, c9, d1, d3, d4, d5, Bool.true_and, Bool.and_true]
 exact d2
theorem jn_ty : Tryz.checked.prog.types = Tryz.checked.src.types := by kernel_rfl
theorem jn_rest : (Tryz.checked.prog.globals.all (fun g => decide (g.type < Tryz.checked.prog.types.size)) && Tryz.checked.prog.funcs.all (fun f => f.params.all fun t => decide (t < Tryz.checked.prog.types.size))) = true := by kernel_rfl
theorem jn_laid : laidOutB Tryz.checked.prog = true := laidOutB_of (allSpec_of Tryz.checked.wellFormed jn_ty) jn_rest
theorem jn_maps : mapsRowed Tryz.checked.prog = true := mapsRowed_of (allSpec_of Tryz.checked.wellFormed jn_ty)
theorem jn_keys : (false == Tryz.checked.prog.plainKeys) = true := by kernel_rfl
theorem jn_stops : (Tryz.prog.stops == []) = true := by kernel_rfl
theorem jn_knobs : (Tryz.prog.stopKnobs == []) = true := by kernel_rfl
theorem jn_heard : Tryz.prog.stopsHeard = true := by kernel_rfl
theorem jn_enter : Tryz.prog.mayEnter = true := by kernel_rfl
end Go.Proofs.YteifdelnahccjaaGreatDoor
namespace Go.Proofs.YteifdelnahccjaaGreatDoor.fnExactGroupOK
open Go
set_option linter.unusedVariables false
set_option maxRecDepth 20000
set_option maxHeartbeats 4000000
theorem k1 : (Rows.fnExactGroupOKRow.inPlace == Tryz.pinned.checked.prog.inPlace 6) = true := by kernel_rfl
theorem k2 : (Rows.fnExactGroupOKRow.unfollowed == Tryz.pinned.checked.prog.unfollowed 6) = true := by kernel_rfl
theorem k3 : (Rows.fnExactGroupOKRow.recurses == Tryz.pinned.checked.prog.recurses 6) = true := by kernel_rfl
theorem k4 : (Rows.fnExactGroupOKRow.named == Tryz.pinned.checked.prog.varsNamed 6) = true := by kernel_rfl
theorem k5 : (Rows.fnExactGroupOKRow.lifted == Tryz.pinned.checked.prog.liftsFinal) = true := by kernel_rfl
theorem k6 : (Tryz.pinned.checked.prog.make == some Rows.fnExactGroupOKRow.make) = true := by kernel_rfl
theorem joined : joinedFacts Tryz.pinned.checked.prog 6 Tryz.f6 (OpenSpec.ofChange Rows.fnExactGroupOKSpec).bare Rows.fnExactGroupOKRow = true :=
 joined_intro (by kernel_rfl) jn_laid jn_maps (by kernel_rfl) (by kernel_rfl) (by kernel_rfl) jn_stops (by kernel_rfl) jn_knobs k1 k2 k3 k4 (by kernel_rfl) (by kernel_rfl) (by kernel_rfl) (by kernel_rfl) (by kernel_rfl)
  (by kernel_rfl) (by kernel_rfl) (by kernel_rfl) (by kernel_rfl) jn_keys (by kernel_rfl) jn_heard jn_enter k5 k6 (by kernel_rfl) (by kernel_rfl) (by kernel_rfl) (by kernel_rfl)
theorem w1 : Rows.fnExactGroupOKRow.wfByText (OpenSpec.ofChange Rows.fnExactGroupOKSpec) = true := by kernel_rfl
theorem w3 : false = Rows.fnExactGroupOKRow.goesBy Tryz.pinned.checked.prog := by kernel_rfl
theorem w4 : false = Tryz.pinned.checked.prog.looks [] := by kernel_rfl
theorem w5 : Tryz.prog.funcNamed "loop.example/g00292/laws.FnExactGroupOK" = some 6 := by kernel_rfl
theorem st61 : Tryz.prog.wantsStandIn 61 = false := by kernel_rfl
theorem plain (f : FuncId) (fn : Func) (hf : Tryz.pinned.checked.prog.funcNamed "loop.example/g00292/laws.FnExactGroupOK" = some f) (hfn : Tryz.pinned.checked.prog.funcs[f]? = some fn) :
  false = Tryz.pinned.checked.prog.looks [] ∧ ∀ (j : Nat) t, fn.params[j]? = some t → Tryz.pinned.checked.prog.wantsStandIn t = false := by
 obtain rfl : f = 6 := Option.some.inj (w5.symm.trans hf) |>.symm
 obtain rfl : fn = Tryz.f6 := (Option.some.inj (Tryz.func6.symm.trans hfn)).symm
 refine ⟨w4, fun j t ht => ?_⟩
 rw [Tryz.params6] at ht
 have hm := Array.mem_of_getElem? ht
 simp only [List.mem_toArray, List.mem_cons, List.not_mem_nil, or_false] at hm
 obtain rfl := hm
 exact st61
end Go.Proofs.YteifdelnahccjaaGreatDoor.fnExactGroupOK
