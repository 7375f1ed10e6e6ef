import Derived.Test.YteifdelnahccjaaGreatDoorC10
namespace Go.Proofs.YteifdelnahccjaaGreatDoor
open Go.V
set_option linter.unusedVariables false
set_option linter.unusedSimpArgs false
set_option maxRecDepth 20000
set_option maxHeartbeats 4000000
def fyOK (n : Int) (F : List Int) : Prop := (F.length : Int) ≤ (n - 1) / 3 ∧ ∀ i, i < F.length → (0 ≤ F.getD i 0 ∧ F.getD i 0 ≤ n - 1) ∧ (0 < i → F.getD (i - 1) 0 < F.getD i 0)
def rsOK (n : Int) (L : List Rep) (i : Nat) : Prop := (L.getD i Rep0).id = (i : Int) ∧ (L.getD i Rep0).nd = n ∧ (L.getD i Rep0).OK
def pcOK (n : Int) (p : Pc) : Prop := (0 ≤ p.to ∧ p.to ≤ n - 1) ∧ sgd mk bare n p.ms
def sgM (n : Int) (m : Msg) : Prop := sgd mk bare n m
def Grp.hd (g : Grp) : Prop := nodes g.nd ∧ fyOK g.nd g.fa ∧ (g.rs.length : Int) = g.nd ∧ g.wi.length ≤ 400 ∧ g.se.length ≤ 4096
def Grp.OK (g : Grp) : Prop := g.hd ∧ (∀ i, i < g.rs.length → rsOK g.nd g.rs i) ∧ (∀ i, i < g.wi.length → pcOK g.nd (g.wi.getD i Pc0)) ∧ (∀ i, i < g.se.length → sgM g.nd (g.se.getD i Msg0))
def riOK (lo hi : Int) (F : List Int) (i : Nat) : Prop := (lo ≤ F.getD i 0 ∧ F.getD i 0 ≤ hi) ∧ (0 < i → F.getD (i - 1) 0 < F.getD i 0)
noncomputable instance dcRi (lo hi : Int) (F : List Int) : Decidable (∀ i, i < F.length → riOK lo hi F i) := Classical.propDecidable _
noncomputable instance dcFy (n : Int) (F : List Int) : Decidable (nodes n ∧ fyOK n F) := Classical.propDecidable _
noncomputable instance dcFz (n : Int) (F : List Int) : Decidable (fyOK n F) := Classical.propDecidable _
noncomputable instance dcGrp (g : Grp) : Decidable g.OK := Classical.propDecidable _
def anyP {α : Type} (P : α → Prop) (L : List α) : Prop := ∃ x ∈ L, P x
noncomputable instance dcAny {α : Type} (P : α → Prop) (L : List α) : Decidable (anyP P L) := Classical.propDecidable _
def nS (n : Int) (m : Msg) : Prop := ¬ (nodes n ∧ sgd mk bare n m)
noncomputable instance dcNs (n : Int) (m : Msg) : Decidable (nS n m) := Classical.propDecidable _
theorem s139 (n : Int) : Pure En 139 [.one (.int .i64 n)] [.one (.int .i64 (if nodes n then (n - 1) / 3 else 0)), .one (.int .i64 (if nodes n then 0 else 4))] := by
 by_cases hn : nodes n
 ·rw [if_pos hn, if_pos hn]
  rcases hn with rfl | rfl | rfl
  all_goals
   refine Pure.of_ev (st := []) Tryz.func139 rfl kb ?_
   refine br ?_ ?_ <;> intro h1_1
   ·refine br ?_ ?_ <;> intro h1_4
    ·refine br ?_ ?_ <;> intro h1_8
     ·first | exact B5 rfl rfl | (exfalso; omega)
     ·refine D4 ⟨by (first | omega | decide | (rcases hn with e | e | e <;> omega)), by (first | omega | decide | (rcases hn with e | e | e <;> omega))⟩ ?_
      refine sd (by (first | omega | decide | (rcases hn with e | e | e <;> omega))) ?_
      first | exact B5 rfl rfl | (exfalso; omega)
    ·refine D4 ⟨by (first | omega | decide | (rcases hn with e | e | e <;> omega)), by (first | omega | decide | (rcases hn with e | e | e <;> omega))⟩ ?_
     refine sd (by (first | omega | decide | (rcases hn with e | e | e <;> omega))) ?_
     first | exact B5 rfl rfl | (exfalso; omega)
   ·refine D4 ⟨by (first | omega | decide | (rcases hn with e | e | e <;> omega)), by (first | omega | decide | (rcases hn with e | e | e <;> omega))⟩ ?_
    refine sd (by (first | omega | decide | (rcases hn with e | e | e <;> omega))) ?_
    first | exact B5 rfl rfl | (exfalso; omega)
 ·rw [if_neg hn, if_neg hn]
  unfold nodes at hn
  refine Pure.of_ev (st := []) Tryz.func139 rfl kb ?_
  refine br ?_ ?_ <;> intro h1_1
  ·refine br ?_ ?_ <;> intro h1_4
   ·refine br ?_ ?_ <;> intro h1_8
    ·first | exact B5 rfl rfl | (exfalso; omega)
    ·refine B9 ?_
     refine C0 ?_
     first | exact B5 rfl rfl | (exfalso; omega)
   ·refine B9 ?_
    refine C0 ?_
    first | exact B5 rfl rfl | (exfalso; omega)
  ·refine B9 ?_
   refine C0 ?_
   first | exact B5 rfl rfl | (exfalso; omega)
theorem s169 (lo hi : Int) (F : List Int) (b : Bool) (hF : F.length ≤ 1048576) : Pure En 169 [.one (.sl b (F.map iT)), .one (.int .i64 lo), .one (.int .i64 hi)] [.one (.bool (decide (∀ i, i < F.length → riOK lo hi F i)))] := by
 have hl : (F.map iT).length = F.length := List.length_map ..
 refine Pure.of_ev (st := []) Tryz.func169 rfl kb ?_
 refine C7 (fun (i : Nat) => [.sl false b (F.map iT), .int .i64 lo, .int .i64 hi, .unk, .unk, .unk, .unk, .unk, .unk, .sl false b (F.map iT), .int .i64 ((F.map iT).length : Int), .int .i64 i]) (fun (i : Nat) => i ≤ F.length ∧ ∀ j, j < i → riOK lo hi F j) (fun (i : Nat) => F.length - i) 0 ?_ ?_ ?_
 ·exact ⟨Nat.zero_le _, D9⟩
 ·(repeat first | exact LE.nil _ | refine LE.unk _ _ ?_ | refine LE.eq _ _ _ rfl ?_)
 intro i hI ih
 obtain ⟨u0, u2⟩ := hI
 refine A4 (st := []) ?_
 refine br ?_ ?_ <;> intro h2_0
 ·(refine C0 (C4 (by first | rfl | assumption | exact Q17) rfl ?_))
  refine B2 (V1 _ _ _) rfl j2 ?_ ?_ <;> intro h4_3
  ·refine br ?_ ?_ <;> intro h4_7
   ·refine B9 ?_
    (refine C0 (C4 (by first | rfl | assumption | exact Q17) rfl ?_))
    refine br ?_ ?_ <;> intro h4_15
    ·refine A9 rfl ?_; intro q; obtain ⟨e1, e2⟩ := q i (by omega); first | exact h4_3 e1 | (have := e2 (by omega); omega)
    ·refine B9 ?_
     exact P4 (ih (i + 1) ⟨by omega, C9 u2 ⟨h4_3, fun _ => by omega⟩⟩ (by omega)) (by (repeat first | exact LE.nil _ | refine LE.unk _ _ ?_ | refine LE.eq _ _ _ rfl ?_))
   ·refine B9 ?_
    exact P4 (ih (i + 1) ⟨by omega, C9 u2 ⟨h4_3, fun _ => by omega⟩⟩ (by omega)) (by (repeat first | exact LE.nil _ | refine LE.unk _ _ ?_ | refine LE.eq _ _ _ rfl ?_))
  ·refine A9 rfl ?_; intro q; obtain ⟨e1, e2⟩ := q i (by omega); first | exact h4_3 e1 | (have := e2 (by omega); omega)
 ·refine B7 rfl ?_; exact fun j hj => u2 j (by omega)
theorem s97 (n : Int) (F : List Int) (b : Bool) (hF : F.length ≤ 1048576) : Pure En 97 [.one (.int .i64 n), .one (.sl b (F.map iT))] [.one (.bool (decide (nodes n ∧ fyOK n F)))] := by
 have hl : (F.map iT).length = F.length := List.length_map ..
 by_cases hn2 : nodes n
 ·have s139 : ∀ _ : Int, Pure En 139 [.one (.int .i64 n)] [.one (.int .i64 ((n - 1) / 3)), .one (.int .i64 0)] := fun _ => by have := s139 n; rwa [if_pos hn2, if_pos hn2] at this
  refine Pure.of_ev (st := []) Tryz.func97 rfl kb ?_
  refine C2 (s139 n) rfl rfl rfl ?_
  refine br ?_ (fun h => absurd (rfl) h)
  intro h2_1
  refine br ?_ ?_ <;> intro h2_6
  ·refine D4 ⟨by (first | omega | assumption | (rcases hn2 with e | e | e <;> omega)), by (first | omega | assumption | (rcases hn2 with e | e | e <;> omega))⟩ ?_
   refine B2 (s169 0 (n - 1) F b hF) rfl j2 ?_ ?_ <;> intro h2_12
   ·first | (refine B7 rfl ?_; exact ⟨hn2, by omega, h2_12⟩) | (refine A9 rfl ?_; rintro ⟨q1, q2, q3⟩; first | exact h2_12 q3 | omega)
   ·first | (refine B7 rfl ?_; exact ⟨hn2, by omega, h2_12⟩) | (refine A9 rfl ?_; rintro ⟨q1, q2, q3⟩; first | exact h2_12 q3 | omega)
  ·first | (refine B7 rfl ?_; exact ⟨hn2, by omega, h2_12⟩) | (refine A9 rfl ?_; rintro ⟨q1, q2, q3⟩; first | exact h2_12 q3 | omega)
 ·have s139 : ∀ _ : Int, Pure En 139 [.one (.int .i64 n)] [.one (.int .i64 0), .one (.int .i64 4)] := fun _ => by have := s139 n; rwa [if_neg hn2, if_neg hn2] at this
  refine Pure.of_ev (st := []) Tryz.func97 rfl kb ?_
  refine C2 (s139 n) rfl rfl rfl ?_
  refine br (fun h => absurd h ((by decide))) ?_
  intro h2_1
  refine A9 rfl ?_; exact fun q => hn2 q.1
theorem o99 (G : Grp) (m : Msg) {id : Nat} {h : Heap} {n : Nat} (hid : id < n) (hh : h id = some ⟨[[.int .i64 G.nd, .sl false false (G.fa.map iT), .sl false false (G.rs.map Rep.T), .sl false false (G.wi.map Pc.T), .sl false false (G.se.map Msg.T)]], 5, 67⟩) : V.Open En 99 [.agg m.V, .ptr id 0 0] h n (.bool (decide (nS G.nd m))) [] (n + 1) := by
 refine V.Open.of_ev (st := []) Tryz.func99 rfl kb ?_
 refine A2 ?_ (by exact Q0) (by exact Q2)
 (apply C5 (vs := [.int _ _, .int _ _, .int _ _, .int _ _, .str _, .str _, .str _]) j2; exact Q0; exact Q2; rfl; exact kb; rfl)
 refine B2 (s55 G.nd m) rfl j2 ?_ ?_ <;> intro h1_3
 ·first
  | (rw [decide_eq_false (show ¬ nS G.nd m from fun q => q h1_3)]; exact fiO rfl rfl (leWr (fun j hj => absurd hj List.not_mem_nil) (fun j hj hn => by simp (disch := omega) only [↓app0, ↓appC, ↓updS, ↓updN])) (Nat.le_refl _))
  | (rw [decide_eq_true (show nS G.nd m from h1_3)]; exact fiO rfl rfl (leWr (fun j hj => absurd hj List.not_mem_nil) (fun j hj hn => by simp (disch := omega) only [↓app0, ↓appC, ↓updS, ↓updN])) (Nat.le_refl _))
 ·first
  | (rw [decide_eq_false (show ¬ nS G.nd m from fun q => q h1_3)]; exact fiO rfl rfl (leWr (fun j hj => absurd hj List.not_mem_nil) (fun j hj hn => by simp (disch := omega) only [↓app0, ↓appC, ↓updS, ↓updN])) (Nat.le_refl _))
  | (rw [decide_eq_true (show nS G.nd m from h1_3)]; exact fiO rfl rfl (leWr (fun j hj => absurd hj List.not_mem_nil) (fun j hj hn => by simp (disch := omega) only [↓app0, ↓appC, ↓updS, ↓updN])) (Nat.le_refl _))
theorem o170g (fr b : Bool) (L : List Msg) (G : Grp) {id : Nat} {h : Heap} {n : Nat} (hid : id < n) (hh : h id = some ⟨[[.int .i64 G.nd, .sl false false (G.fa.map iT), .sl false false (G.rs.map Rep.T), .sl false false (G.wi.map Pc.T), .sl false false (G.se.map Msg.T)]], 5, 67⟩) (hL : L.length ≤ 1048576) : V.Open En 170 [.sl fr b (L.map Msg.T), .clo 99 [.ptr id 0 0]] h n (.int .i64 (pix (nS G.nd) L 0)) [] (n + 1 * L.length) := by
 have hl : (L.map Msg.T).length = L.length := List.length_map ..
 refine V.Open.of_ev (st := []) Tryz.func170 rfl kb ?_
 refine B1 (fun (a : Nat × Nat) => [.sl fr b (L.map Msg.T), .clo 99 [.ptr id 0 0], .unk, .unk, .unk, .unk, .unk, .int .i64 (L.map Msg.T).length, .int .i64 a.1]) (fun (a : Nat × Nat) => h) (fun (a : Nat × Nat) => a.2) (fun (a : Nat × Nat) => a.1 ≤ L.length ∧ pix (nS G.nd) (L.drop a.1) a.1 = pix (nS G.nd) L 0 ∧ n + 1 * a.1 = a.2) (fun (a : Nat × Nat) => L.length - a.1) (0, n) ?_ ?_ ?_ ?_ ?_
 ·exact ⟨Nat.zero_le _, rfl, by omega⟩
 ·(repeat first | exact LE.nil _ | refine LE.unk _ _ ?_ | refine LE.eq _ _ _ rfl ?_)
 ·exact LessH.refl _
 ·exact Nat.le_refl _
 intro ⟨i, m⟩ hI ih
 obtain ⟨q0, q1, q2⟩ := hI
 dsimp only at q0 q1 q2 ⊢
 refine A4 (st := []) ?_
 refine br ?_ ?_ <;> intro h2_0
 ·(refine C0 (C4 (by first | rfl | assumption | (exact A7 Msg.T Msg0 (k := i) (by omega))) rfl ?_))
  refine P0 (o99 G (L.getD i Msg0) (n := m) (by omega) hh) rfl j2 ?_ ?_
  all_goals intro h4_5
  ·rw [← q1, pix_y (d := Msg0) (L := L) (i := i) (by omega) (of_decide_eq_true h4_5)]; exact fiO rfl rfl (fun _ _ _ e => e) (by omega)
  ·refine B9 ?_
   have e1 := (pix_n (P := nS G.nd) (d := Msg0) (L := L) (i := i) (by omega) (of_decide_eq_false h4_5)).symm.trans q1
   exact D1 (ih (i + 1, m + 1) ⟨by dsimp only; omega, e1, by dsimp only; omega⟩ (by dsimp only; omega)) (by (repeat first | exact LE.nil _ | refine LE.unk _ _ ?_ | refine LE.eq _ _ _ rfl ?_)) (LessH.refl _) (Nat.le_refl _)
 ·rw [← q1, pix_end (L := L) (i := i) (by omega)]; exact fiO rfl rfl (fun _ _ _ e => e) (by omega)
theorem o98g (fr b : Bool) (L : List Msg) (G : Grp) {id : Nat} {h : Heap} {n : Nat} (hid : id < n) (hh : h id = some ⟨[[.int .i64 G.nd, .sl false false (G.fa.map iT), .sl false false (G.rs.map Rep.T), .sl false false (G.wi.map Pc.T), .sl false false (G.se.map Msg.T)]], 5, 67⟩) (hL : L.length ≤ 1048576) : V.Open En 98 [.sl fr b (L.map Msg.T), .clo 99 [.ptr id 0 0]] h n (.bool (decide (anyP (nS G.nd) L))) [] (n + 1 * L.length) := by
 refine V.Open.of_ev (st := []) Tryz.func98 rfl kb ?_
 refine L8 (o170g fr b L G hid hh hL) rfl rfl rfl ?_
 refine br ?_ ?_ <;> intro h1_3
 ·first
  | (rw [decide_eq_true (show anyP (nS G.nd) L from (J5 (P := nS G.nd) L 0).1 (by omega))]; exact fiO rfl rfl (fun _ _ _ e => e) (Nat.le_refl _))
  | (rw [decide_eq_false (show ¬ anyP (nS G.nd) L from fun q => by have := (J5 (P := nS G.nd) L 0).2 q; omega)]; exact fiO rfl rfl (fun _ _ _ e => e) (Nat.le_refl _))
 ·first
  | (rw [decide_eq_true (show anyP (nS G.nd) L from (J5 (P := nS G.nd) L 0).1 (by omega))]; exact fiO rfl rfl (fun _ _ _ e => e) (Nat.le_refl _))
  | (rw [decide_eq_false (show ¬ anyP (nS G.nd) L from fun q => by have := (J5 (P := nS G.nd) L 0).2 q; omega)]; exact fiO rfl rfl (fun _ _ _ e => e) (Nat.le_refl _))
theorem Grp.sm {G : Grp} (h : TBs 1048576 G.T) : G.fa.length ≤ 1048576 ∧ G.rs.length ≤ 1048576 ∧ (∀ i, i < G.rs.length → TBs 1048576 (G.rs.getD i Rep0).T) ∧ G.wi.length ≤ 1048576 ∧ G.se.length ≤ 1048576 := by
 obtain ⟨h1, h2, h3, h4⟩ := Grp.tb.1 h
 obtain ⟨a1, a2⟩ := (B6 Rep.T Rep0).1 h2
 exact ⟨((B6 iT 0).1 h1).1, a1, a2, ((B6 Pc.T Pc0).1 h3).1, ((B6 Msg.T Msg0).1 h4).1⟩
theorem s34 (G : Grp) (hb : TBs 1048576 G.T) : Pure En 34 [.agg G.T] [.one (.bool (decide G.OK))] := by
 obtain ⟨hF, hR0, hR, hW, hS⟩ := Grp.sm hb
 have hl1 : (G.fa.map iT).length = G.fa.length := List.length_map ..
 have hl2 : (G.rs.map Rep.T).length = G.rs.length := List.length_map ..
 have hl3 : (G.wi.map Pc.T).length = G.wi.length := List.length_map ..
 have hl4 : (G.se.map Msg.T).length = G.se.length := List.length_map ..
 refine Pure.of_ev (st := []) Tryz.func34 rfl kb ?_
 refine A2 ?_ (by exact Q0) (by exact Q2)
 refine A2 ?_ (by exact Q0) (by exact Q2)
 refine B2 (s97 G.nd G.fa false hF) rfl j2 ?_ ?_ <;> intro h1_4
 ·refine A2 ?_ (by exact Q0) (by exact Q2)
  refine A2 ?_ (by exact Q0) (by exact Q2)
  refine br ?_ ?_ <;> intro h1_12
  ·refine A9 rfl ?_; rintro ⟨⟨q1, q2, q3, q4, q5⟩, _⟩; first | exact h1_4 ⟨q1, q2⟩ | omega
  ·refine A2 ?_ (by exact Q0) (by exact Q2)
   refine br ?_ ?_ <;> intro h1_18
   ·refine A9 rfl ?_; rintro ⟨⟨q1, q2, q3, q4, q5⟩, _⟩; first | exact h1_4 ⟨q1, q2⟩ | omega
   ·refine A2 ?_ (by exact Q0) (by exact Q2)
    refine br ?_ ?_ <;> intro h1_24
    ·refine A9 rfl ?_; rintro ⟨⟨q1, q2, q3, q4, q5⟩, _⟩; first | exact h1_4 ⟨q1, q2⟩ | omega
    ·refine A2 ?_ (by exact Q0) (by exact Q2)
     refine B1 (fun (a : Nat × Nat) => [.unk, .ptr 0 0 0, .unk, .unk, .unk, .unk, .unk, .unk, .unk, .unk, .unk, .unk, .unk, .unk, .unk, .unk, .unk, .unk, .unk, .unk, .unk, .unk, .unk, .unk, .unk, .unk, .unk, .unk, .unk, .unk, .unk, .unk, .unk, .unk, .sl false false (G.rs.map Rep.T), .int .i64 ((G.rs.map Rep.T).length : Int), .int .i64 a.1]) (fun (a : Nat × Nat) => hp [(0, ⟨[[.int .i64 G.nd, .sl false false (G.fa.map iT), .sl false false (G.rs.map Rep.T), .sl false false (G.wi.map Pc.T), .sl false false (G.se.map Msg.T)]], 5, 67⟩)]) (fun (a : Nat × Nat) => a.2) (fun (a : Nat × Nat) => a.1 ≤ G.rs.length ∧ 1 ≤ a.2 ∧ ∀ j, j < a.1 → rsOK G.nd G.rs j) (fun (a : Nat × Nat) => G.rs.length - a.1) (0, 1) ?_ ?_ ?_ ?_ ?_
     ·exact ⟨Nat.zero_le _, Nat.le_refl _, D9⟩
     ·(repeat first | exact LE.nil _ | refine LE.unk _ _ ?_ | refine LE.eq _ _ _ rfl ?_)
     ·(repeat first | exact A5 | (refine A6 ?_ ?_; exact F8))
     ·exact Nat.le_refl _
     intro ⟨i, m⟩ hI ih
     obtain ⟨u0, u1, u2⟩ := hI
     dsimp only at u0 u1 u2 ⊢
     refine A4 (st := []) ?_
     refine br ?_ ?_ <;> intro h4_0
     ·(refine C0 (C4 (by first | rfl | assumption | (first | exact A7 Rep.T Rep0 (k := i) (by omega) | exact A7 Pc.T Pc0 (k := i2) (by omega))) rfl ?_))
      (apply est (u := .agg [.int _ _, .int _ _, .int _ _, .bool _, _, _, _, _]) j3; exact Q0; exact Q2; exact j4; exact kb; rfl)
      refine A2 ?_ (by exact Q0) (by exact Q2)
      refine br ?_ ?_ <;> intro h6_3
      ·refine A9 rfl ?_; rintro ⟨_, q2, _⟩; obtain ⟨e1, e2, e3⟩ := q2 i (by omega); first | omega | exact h6_13 e3
      ·refine A2 ?_ (by exact Q0) (by exact Q2)
       refine A2 ?_ (by exact Q0) (by exact Q2)
       refine br ?_ ?_ <;> intro h6_9
       ·refine A9 rfl ?_; rintro ⟨_, q2, _⟩; obtain ⟨e1, e2, e3⟩ := q2 i (by omega); first | omega | exact h6_13 e3
       ·(apply C5 (vs := [.int _ _, .int _ _, .int _ _, .bool _, _, _, _, _]) j2; exact Q0; exact Q2; rfl; exact kb; rfl)
        refine B2 (s29 (G.rs.getD i Rep0) (hR i (by omega))) rfl j2 ?_ ?_ <;> intro h6_13
        ·refine D4 ⟨by (first | omega | (rcases h1_4.1 with e | e | e <;> omega)), by (first | omega | (rcases h1_4.1 with e | e | e <;> omega))⟩ ?_
         exact D1 (ih (i + 1, m + 1) ⟨by dsimp only; omega, by dsimp only; omega, C9 u2 ⟨by omega, by omega, h6_13⟩⟩ (by dsimp only; omega)) (by (repeat first | exact LE.nil _ | refine LE.unk _ _ ?_ | refine LE.eq _ _ _ rfl ?_)) (by (repeat first | exact A5 | (refine A6 ?_ ?_; exact F8))) (Nat.le_refl _)
        ·refine A9 rfl ?_; rintro ⟨_, q2, _⟩; obtain ⟨e1, e2, e3⟩ := q2 i (by omega); first | omega | exact h6_13 e3
     ·refine A2 ?_ (by exact Q0) (by exact Q2)
      refine B1 (fun (a : Nat × Nat) => [.unk, .ptr 0 0 0, .unk, .unk, .unk, .unk, .unk, .unk, .unk, .unk, .unk, .unk, .unk, .unk, .unk, .unk, .unk, .unk, .unk, .unk, .unk, .unk, .unk, .unk, .unk, .unk, .unk, .unk, .unk, .unk, .unk, .unk, .unk, .unk, .unk, .unk, .unk, .unk, .unk, .unk, .unk, .unk, .unk, .unk, .unk, .unk, .unk, .unk, .unk, .unk, .unk, .unk, .unk, .unk, .unk, .unk, .unk, .unk, .unk, .sl false false (G.wi.map Pc.T), .int .i64 ((G.wi.map Pc.T).length : Int), .int .i64 a.1]) (fun (a : Nat × Nat) => hp [(0, ⟨[[.int .i64 G.nd, .sl false false (G.fa.map iT), .sl false false (G.rs.map Rep.T), .sl false false (G.wi.map Pc.T), .sl false false (G.se.map Msg.T)]], 5, 67⟩)]) (fun (a : Nat × Nat) => a.2) (fun (a : Nat × Nat) => a.1 ≤ G.wi.length ∧ 1 ≤ a.2 ∧ ∀ j, j < a.1 → pcOK G.nd (G.wi.getD j Pc0)) (fun (a : Nat × Nat) => G.wi.length - a.1) (0, m) ?_ ?_ ?_ ?_ ?_
      ·exact ⟨Nat.zero_le _, u1, D9⟩
      ·(repeat first | exact LE.nil _ | refine LE.unk _ _ ?_ | refine LE.eq _ _ _ rfl ?_)
      ·(repeat first | exact A5 | (refine A6 ?_ ?_; exact F8))
      ·exact Nat.le_refl _
      intro ⟨i2, m2⟩ hI ih
      obtain ⟨v0, v1, v2⟩ := hI
      dsimp only at v0 v1 v2 ⊢
      refine A4 (st := []) ?_
      refine br ?_ ?_ <;> intro h10_0
      ·(refine C0 (C4 (by first | rfl | assumption | (first | exact A7 Rep.T Rep0 (k := i) (by omega) | exact A7 Pc.T Pc0 (k := i2) (by omega))) rfl ?_))
       (apply est (u := .agg [.int _ _, .int _ _, .int _ _, .int _ _, .int _ _, .str _, .str _, .str _]) j3; exact Q0; exact Q2; exact j4; exact kb; rfl)
       refine A2 ?_ (by exact Q0) (by exact Q2)
       refine A2 ?_ (by exact Q0) (by exact Q2)
       refine D4 ⟨by (first | omega | (rcases h1_4.1 with e | e | e <;> omega)), by (first | omega | (rcases h1_4.1 with e | e | e <;> omega))⟩ ?_
       refine B2 (V1 _ _ _) rfl j2 ?_ ?_ <;> intro h12_5
       ·refine A2 ?_ (by exact Q0) (by exact Q2)
        (apply C5 (vs := [.int _ _, .int _ _, .int _ _, .int _ _, .str _, .str _, .str _]) j2; exact Q0; exact Q2; rfl; exact kb; rfl)
        refine B2 (s55 G.nd (G.wi.getD i2 Pc0).ms) rfl j2 ?_ ?_ <;> intro h12_12
        ·refine D4 ⟨by (first | omega | (rcases h1_4.1 with e | e | e <;> omega)), by (first | omega | (rcases h1_4.1 with e | e | e <;> omega))⟩ ?_
         exact D1 (ih (i2 + 1, m2 + 1) ⟨by dsimp only; omega, by dsimp only; omega, C9 v2 ⟨h12_5, h12_12.2⟩⟩ (by dsimp only; omega)) (by (repeat first | exact LE.nil _ | refine LE.unk _ _ ?_ | refine LE.eq _ _ _ rfl ?_)) (by (repeat first | exact A5 | (refine A6 ?_ ?_; exact F8))) (Nat.le_refl _)
        ·refine A9 rfl ?_; rintro ⟨_, _, q3, _⟩; obtain ⟨e1, e2⟩ := q3 i2 (by omega); first | exact h12_5 e1 | exact h12_12 ⟨h1_4.1, e2⟩
       ·refine A9 rfl ?_; rintro ⟨_, _, q3, _⟩; obtain ⟨e1, e2⟩ := q3 i2 (by omega); first | exact h12_5 e1 | exact h12_12 ⟨h1_4.1, e2⟩
      ·refine A2 ?_ (by exact Q0) (by exact Q2)
       refine P0 (o98g false false G.se G (id := 0) ?_ ?_ hS) rfl j2 ?_ ?_
       ·exact F1
       ·exact F1
       all_goals intro h15_3
       ·first
        | (refine A9 rfl ?_; rintro ⟨_, _, _, q4⟩; obtain ⟨x, hx, hn⟩ := of_decide_eq_true h15_3; obtain ⟨k, hk, rfl⟩ := List.getElem_of_mem hx; have := q4 k hk; rw [show G.se.getD k Msg0 = G.se[k] by simp [hk]] at this; exact hn ⟨h1_4.1, this⟩)
        | (refine B7 rfl ?_; refine ⟨⟨h1_4.1, h1_4.2, by omega, by omega, by omega⟩, fun j hj => u2 j (by omega), fun j hj => v2 j (by omega), fun j hj => ?_⟩; refine Classical.byContradiction fun q => of_decide_eq_false h15_3 ⟨G.se.getD j Msg0, ?_, fun e => q e.2⟩; rw [show G.se.getD j Msg0 = G.se[j] by simp [hj]]; exact List.getElem_mem hj)
       ·first
        | (refine A9 rfl ?_; rintro ⟨_, _, _, q4⟩; obtain ⟨x, hx, hn⟩ := of_decide_eq_true h15_3; obtain ⟨k, hk, rfl⟩ := List.getElem_of_mem hx; have := q4 k hk; rw [show G.se.getD k Msg0 = G.se[k] by simp [hk]] at this; exact hn ⟨h1_4.1, this⟩)
        | (refine B7 rfl ?_; refine ⟨⟨h1_4.1, h1_4.2, by omega, by omega, by omega⟩, fun j hj => u2 j (by omega), fun j hj => v2 j (by omega), fun j hj => ?_⟩; refine Classical.byContradiction fun q => of_decide_eq_false h15_3 ⟨G.se.getD j Msg0, ?_, fun e => q e.2⟩; rw [show G.se.getD j Msg0 = G.se[j] by simp [hj]]; exact List.getElem_mem hj)
 ·refine A9 rfl ?_; rintro ⟨⟨q1, q2, q3, q4, q5⟩, _⟩; first | exact h1_4 ⟨q1, q2⟩ | omega
open Go.V
set_option linter.unusedVariables false
set_option linter.unusedSimpArgs false
set_option maxRecDepth 20000
set_option maxHeartbeats 4000000
def isF (F : List Int) (x : Int) : Prop := ∃ y ∈ F, y = x
noncomputable instance dcIf (F : List Int) (x : Int) : Decidable (isF F x) := Classical.propDecidable _
theorem isF_get {F : List Int} {x : Int} {i : Nat} (h : i < F.length) (e : F.getD i 0 = x) : isF F x := ⟨F.getD i 0, by rw [show F.getD i 0 = F[i] by simp [h]]; exact List.getElem_mem h, e⟩
theorem isF_no {F : List Int} {x : Int} (h : ∀ j, j < F.length → F.getD j 0 ≠ x) : ¬ isF F x := by
 rintro ⟨y, hy, rfl⟩
 obtain ⟨k, hk, e⟩ := List.getElem_of_mem hy
 exact h k hk (by simp [hk, e])
noncomputable def lyL (G : Grp) : Nat → List Rep
 | 0 => []
 | i + 1 => if isF G.fa (i : Int) then lyL G i else lyL G i ++ [G.rs.getD i Rep0]
noncomputable def ly (G : Grp) : List Rep := lyL G G.rs.length
theorem lyL_y {G : Grp} {i : Nat} (h : isF G.fa (i : Int)) : lyL G (i + 1) = lyL G i := if_pos h
theorem lyL_n {G : Grp} {i : Nat} (h : ¬ isF G.fa (i : Int)) : lyL G (i + 1) = lyL G i ++ [G.rs.getD i Rep0] := if_neg h
theorem lyL_len (G : Grp) : ∀ i, (lyL G i).length ≤ i
 | 0 => Nat.le_refl _
 | i + 1 => by
  have := lyL_len G i
  by_cases h : isF G.fa (i : Int)
  ·rw [lyL_y h]; omega
  ·rw [lyL_n h, List.length_append]; simp only [List.length_cons, List.length_nil]; omega
def lgB (L : List Rep) : Nat → List ByteArray
 | 0 => []
 | i + 1 => if (L.getD i Rep0).lg.length > (lgB L i).length then (L.getD i Rep0).lg else lgB L i
noncomputable def lgS (G : Grp) : Nat → List ByteArray
 | 0 => []
 | i + 1 => if ¬ isF G.fa (i : Int) ∧ (G.rs.getD i Rep0).lg.length > (lgS G i).length then (G.rs.getD i Rep0).lg else lgS G i
noncomputable def lgO (G : Grp) : List ByteArray := lgB (ly G) (ly G).length
def bO (l : List ByteArray) : V := if l = [] then .nsl else .sl false false (l.map tT)
theorem getVk {α : Type} (f : α → List V) (d : α) {L : List α} {k : Nat} (h : k < L.length) : (L.map f)[0 + ((k : Int)).toNat]? = some (f (L.getD k d)) := by rw [Nat.zero_add]; simp [h]
def repV (R : Rep) : List V := [.int .i64 R.id, .int .i64 R.nd, .int .i64 R.vw, .bool R.ac, .sl false false (R.sl.map Slt.T), .sl false false (R.cs.map (Ct.T false)), .sl false false (R.lg.map tT), .sl false false (R.ch.map Msg.T)]
structure LY where
 i : Nat
 o : V
 b : Nat
 m : Nat
 g : Heap
structure LyI (G : Grp) (h : Heap) (n : Nat) (a : LY) : Prop where
 il : a.i ≤ G.rs.length
 old : ∀ j b, j < n → h j = some b → a.g j = some b
 out : LsOK repV 8 54 n (lyL G a.i) a.o a.b a.m a.g
 mm : n ≤ a.m
theorem s278 (F : List Int) (x : Int) (b : Bool) (hF : F.length ≤ 1048576) : ∃ k : Int, ((0 ≤ k → isF F x) ∧ (isF F x → 0 ≤ k)) ∧ Pure En 278 [.one (.sl b (F.map iT)), .one (.int .i64 x)] [.one (.int .i64 k)] := by
 have hl : (F.map iT).length = F.length := List.length_map ..
 refine Pure.of_evX (st := []) Tryz.func278 rfl kb ?_
 refine C7 (fun (i : Nat) => [.sl false b (F.map iT), .int .i64 x, .unk, .unk, .unk, .unk, .unk, .int .i64 ((F.map iT).length : Int), .int .i64 i]) (fun (i : Nat) => i ≤ F.length ∧ ∀ j, j < i → F.getD j 0 ≠ x) (fun (i : Nat) => F.length - i) 0 ?_ ?_ ?_
 ·exact ⟨Nat.zero_le _, D9⟩
 ·(repeat first | exact LE.nil _ | refine LE.unk _ _ ?_ | refine LE.eq _ _ _ rfl ?_)
 intro i hI ih
 obtain ⟨u0, u2⟩ := hI
 refine A4 (st := []) ?_
 refine br ?_ ?_ <;> intro h2_0
 ·(refine C0 (C4 (by first | rfl | assumption | (first | exact A7 iT 0 (k := i) (by omega))) rfl ?_))
  refine br ?_ ?_ <;> intro h4_5
  ·exact ⟨(i : Int), ⟨fun _ => isF_get (by omega) h4_5.symm, fun _ => by omega⟩, B5 rfl rfl⟩
  ·refine B9 ?_
   exact P4 (ih (i + 1) ⟨by omega, C9 u2 (fun e => h4_5 e.symm)⟩ (by omega)) (by (repeat first | exact LE.nil _ | refine LE.unk _ _ ?_ | refine LE.eq _ _ _ rfl ?_))
 ·exact ⟨-1, ⟨fun q => absurd q (by decide), fun q => absurd q (isF_no fun j hj => u2 j (by omega))⟩, B5 rfl rfl⟩
theorem s231 (F : List Int) (x : Int) (b : Bool) (hF : F.length ≤ 1048576) : Pure En 231 [.one (.sl b (F.map iT)), .one (.int .i64 x)] [.one (.bool (decide (isF F x)))] := by
 refine Pure.of_ev (st := []) Tryz.func231 rfl kb ?_
 refine H6 (s278 F x b hF) rfl j2 ?_
 rintro k h1_2
 try dsimp only at h1_2
 refine br ?_ ?_ <;> intro h1_3
 ·first | (refine B7 rfl ?_; exact h1_2.1 (by omega)) | (refine A9 rfl ?_; intro q; have := h1_2.2 q; omega)
 ·first | (refine B7 rfl ?_; exact h1_2.1 (by omega)) | (refine A9 rfl ?_; intro q; have := h1_2.2 q; omega)
theorem o172 (G : Grp) (x : Int) (hF : G.fa.length ≤ 1048576) {id : Nat} {h : Heap} {n : Nat} (hid : id < n) (hh : h id = some ⟨[[.int .i64 G.nd, .sl false false (G.fa.map iT), .sl false false (G.rs.map Rep.T), .sl false false (G.wi.map Pc.T), .sl false false (G.se.map Msg.T)]], 5, 67⟩) : V.Open En 172 [.ptr id 0 0, .int .i64 x] h n (.bool (decide (isF G.fa x))) [] n := by
 refine V.Open.of_ev (st := []) Tryz.func172 rfl kb ?_
 refine A2 ?_ (by exact Q0) (by exact Q2)
 refine B2 (s231 G.fa x false hF) rfl j2 ?_ ?_ <;> intro h1_5
 ·first
  | (rw [decide_eq_true h1_5]; exact fiO rfl rfl (leWr (fun j hj => absurd hj List.not_mem_nil) (fun j hj hn => by simp (disch := omega) only [↓app0, ↓appC, ↓updS, ↓updN])) (Nat.le_refl _))
  | (rw [decide_eq_false h1_5]; exact fiO rfl rfl (leWr (fun j hj => absurd hj List.not_mem_nil) (fun j hj hn => by simp (disch := omega) only [↓app0, ↓appC, ↓updS, ↓updN])) (Nat.le_refl _))
 ·first
  | (rw [decide_eq_true h1_5]; exact fiO rfl rfl (leWr (fun j hj => absurd hj List.not_mem_nil) (fun j hj hn => by simp (disch := omega) only [↓app0, ↓appC, ↓updS, ↓updN])) (Nat.le_refl _))
  | (rw [decide_eq_false h1_5]; exact fiO rfl rfl (leWr (fun j hj => absurd hj List.not_mem_nil) (fun j hj hn => by simp (disch := omega) only [↓app0, ↓appC, ↓updS, ↓updN])) (Nat.le_refl _))
theorem r103 (F : List Int) (x : Int) (b : Bool) (hF : F.length ≤ 1048576) : Pure En 103 [.one (.sl b (F.map iT)), .one (.int .i64 x)] [.one (.bool (decide (isF F x)))] := by
 have hl : (F.map iT).length = F.length := List.length_map ..
 refine Pure.of_ev (st := []) Tryz.func103 rfl kb ?_
 refine C7 (fun (i : Nat) => [.sl false b (F.map iT), .int .i64 x, .unk, .unk, .unk, .int .i64 i]) (fun (i : Nat) => i ≤ F.length ∧ ∀ j, j < i → F.getD j 0 ≠ x) (fun (i : Nat) => F.length - i) 0 ?_ ?_ ?_
 ·exact ⟨Nat.zero_le _, D9⟩
 ·(repeat first | exact LE.nil _ | refine LE.unk _ _ ?_ | refine LE.eq _ _ _ rfl ?_)
 intro i hI ih
 obtain ⟨u0, u2⟩ := hI
 refine A4 (st := []) ?_
 refine br ?_ ?_ <;> intro h2_3
 ·(refine C0 (C4 (by first | rfl | assumption | (first | exact A7 iT 0 (k := i) (by omega))) rfl ?_))
  refine br ?_ ?_ <;> intro h4_5
  ·exact B7 rfl (isF_get (by omega) h4_5)
  ·refine B9 ?_
   exact P4 (ih (i + 1) ⟨by omega, C9 u2 h4_5⟩ (by omega)) (by (repeat first | exact LE.nil _ | refine LE.unk _ _ ?_ | refine LE.eq _ _ _ rfl ?_))
 ·exact A9 rfl (isF_no fun j hj => u2 j (by omega))
theorem o104 (G : Grp) (hF : G.fa.length ≤ 1048576) (hR : G.rs.length ≤ 1048576) (hne : ∀ i, G.rs.length ≤ i → lyL G i ≠ []) {id : Nat} {h : Heap} {n : Nat} (hid : id < n) (hh : h id = some ⟨[[.int .i64 G.nd, .sl false false (G.fa.map iT), .sl false false (G.rs.map Rep.T), .sl false false (G.wi.map Pc.T), .sl false false (G.se.map Msg.T)]], 5, 67⟩) :
  ∃ a : Nat × Nat, (n ≤ a.1 ∧ a.1 < a.2) ∧ V.Open En 104 [.ptr id 0 0] h n (.view a.1 0 (ly G).length) [(a.1, some ⟨(ly G).map repV, 8, 54⟩)] a.2 := by
 have hl : (G.rs.map Rep.T).length = G.rs.length := List.length_map ..
 refine V.Open.of_evX (st := [7]) Tryz.func104 rfl kb ?_
 refine A2 ?_ (by exact Q13) (by exact Q2)
 refine B1 (fun (a : LY) => [.ptr id 0 0, .unk, .unk, a.o, .unk, .unk, .unk, .unk, .unk, .sl false false (G.rs.map Rep.T), .int .i64 ((G.rs.map Rep.T).length : Int), .int .i64 a.i]) (fun (a : LY) => a.g) (fun (a : LY) => a.m) (fun (a : LY) => LyI G h n a) (fun (a : LY) => G.rs.length - a.i) ⟨0, .nsl, 0, n, h⟩ ?_ ?_ ?_ ?_ ?_
 ·exact ⟨Nat.zero_le _, fun _ _ _ hb => hb, .inl ⟨rfl, rfl⟩, Nat.le_refl _⟩
 ·(repeat first | exact LE.nil _ | refine LE.unk _ _ ?_ | refine LE.eq _ _ _ rfl ?_)
 ·exact LessH.refl _
 ·exact Nat.le_refl _
 intro ⟨i, o, b, mm, g⟩ hI ih
 have q0 := hI.il
 have hg0 := hI.old id _ hid hh
 have q4 := hI.mm
 dsimp only at q0 hg0 q4 ⊢
 have hlen := lyL_len G i
 rcases hI.out with ⟨e0, e1⟩ | ⟨e1, hb1, hb2⟩
 all_goals dsimp only at e1
 ·skip
  subst e1
  refine A4 (st := [7]) ?_
  refine br ?_ ?_ <;> intro h3_0
  ·(refine C0 (C4 (by first | rfl | assumption | (exact A7 Rep.T Rep0 (k := i) (by omega))) rfl ?_))
   (apply est (u := .agg [.int _ _, .int _ _, .int _ _, .bool _, _, _, _, _]) j3; exact Q13; exact Q2; exact j4; exact kb; rfl)
   refine P0 (o172 G (i : Int) hF (id := id) ?_ ?_) rfl j2 ?_ ?_
   ·(first | omega | assumption | exact Q13)
   ·(first | omega | assumption | exact Q13)
   all_goals intro h5_2
   ·refine K1 fun GG hGG => ?_
    refine B9 ?_
    first | (exact D1 (ih ⟨i + 1, .nsl, b, mm + 1, GG⟩ ⟨by dsimp only; omega, fun j bb hj hb => by dsimp only; rw [hGG]; have h9 := hI.old j bb hj hb; dsimp only at h9; (simp (disch := (first | omega | assumption)) only [↓appC, ↓updN, ↓updS, ↓app0]); exact h9, by dsimp only; rw [lyL_y (of_decide_eq_true h5_2)]; exact .inl ⟨e0, rfl⟩, by dsimp only; omega⟩ (by dsimp only; omega)) (by (repeat first | exact LE.nil _ | refine LE.unk _ _ ?_ | refine LE.eq _ _ _ rfl ?_)) (LessH.refl _) (Nat.le_refl _)) | (exact D1 (ih ⟨i + 1, .view (mm + 1 + 1) 0 1, mm + 1 + 1, mm + 1 + 1 + 1, GG⟩ ⟨by dsimp only; omega, fun j bb hj hb => by dsimp only; rw [hGG]; have h9 := hI.old j bb hj hb; dsimp only at h9; (simp (disch := (first | omega | assumption)) only [↓appC, ↓updN, ↓updS, ↓app0]); exact h9, by dsimp only; rw [lyL_n (of_decide_eq_false h5_2)]; refine .inr ⟨?_, ?_, by omega, by omega⟩; (rw [List.length_append]; rw [e0]; rfl); (rw [hGG, List.map_append]; rw [e0]; exact Q13), by dsimp only; omega⟩ (by dsimp only; omega)) (by (repeat first | exact LE.nil _ | refine LE.unk _ _ ?_ | refine LE.eq _ _ _ rfl ?_)) (LessH.refl _) (Nat.le_refl _))
   ·(apply C5 (vs := [.int _ _, .int _ _, .int _ _, .bool _, _, _, _, _]) j2; exact Q13; exact Q2; rfl; exact kb; rfl)
    refine E6 (es := [[.int _ _, .int _ _, .int _ _, .bool _, _, _, _, _]]) j4 kz kb rfl rfl ?_
    (apply ean (s' := 128) (es := [[.int _ _, .int _ _, .int _ _, .bool _, _, _, _, _]]) rfl j3 kz; (first | rfl | (apply F3 rfl; exact Q13; (first | exact Nat.le_refl _ | omega); rfl)); exact Q5; exact Q3; exact Q3; exact Q3)
    refine K1 fun GG hGG => ?_
    refine B9 ?_
    first | (exact D1 (ih ⟨i + 1, .nsl, b, mm + 1, GG⟩ ⟨by dsimp only; omega, fun j bb hj hb => by dsimp only; rw [hGG]; have h9 := hI.old j bb hj hb; dsimp only at h9; (simp (disch := (first | omega | assumption)) only [↓appC, ↓updN, ↓updS, ↓app0]); exact h9, by dsimp only; rw [lyL_y (of_decide_eq_true h5_2)]; exact .inl ⟨e0, rfl⟩, by dsimp only; omega⟩ (by dsimp only; omega)) (by (repeat first | exact LE.nil _ | refine LE.unk _ _ ?_ | refine LE.eq _ _ _ rfl ?_)) (LessH.refl _) (Nat.le_refl _)) | (exact D1 (ih ⟨i + 1, .view (mm + 1 + 1) 0 1, mm + 1 + 1, mm + 1 + 1 + 1, GG⟩ ⟨by dsimp only; omega, fun j bb hj hb => by dsimp only; rw [hGG]; have h9 := hI.old j bb hj hb; dsimp only at h9; (simp (disch := (first | omega | assumption)) only [↓appC, ↓updN, ↓updS, ↓app0]); exact h9, by dsimp only; rw [lyL_n (of_decide_eq_false h5_2)]; refine .inr ⟨?_, ?_, by omega, by omega⟩; (rw [List.length_append]; rw [e0]; rfl); (rw [hGG, List.map_append]; rw [e0]; exact Q13), by dsimp only; omega⟩ (by dsimp only; omega)) (by (repeat first | exact LE.nil _ | refine LE.unk _ _ ?_ | refine LE.eq _ _ _ rfl ?_)) (LessH.refl _) (Nat.le_refl _))
  ·exact absurd e0 (hne i (by omega))
 ·skip
  dsimp only at hb1 hb2
  subst e1
  refine A4 (st := [7]) ?_
  refine br ?_ ?_ <;> intro h3_0
  ·(refine C0 (C4 (by first | rfl | assumption | (exact A7 Rep.T Rep0 (k := i) (by omega))) rfl ?_))
   (apply est (u := .agg [.int _ _, .int _ _, .int _ _, .bool _, _, _, _, _]) j3; exact Q13; exact Q2; exact j4; exact kb; rfl)
   refine P0 (o172 G (i : Int) hF (id := id) ?_ ?_) rfl j2 ?_ ?_
   ·(first | omega | assumption | exact Q13)
   ·(first | omega | assumption | exact Q13)
   all_goals intro h5_2
   ·refine K1 fun GG hGG => ?_
    refine B9 ?_
    first | (exact D1 (ih ⟨i + 1, .view b 0 (lyL G i).length, b, mm + 1, GG⟩ ⟨by dsimp only; omega, fun j bb hj hb => by dsimp only; rw [hGG]; have h9 := hI.old j bb hj hb; dsimp only at h9; (simp (disch := (first | omega | assumption)) only [↓appC, ↓updN, ↓updS, ↓app0]); exact h9, by dsimp only; rw [lyL_y (of_decide_eq_true h5_2)]; refine .inr ⟨rfl, ?_, by omega, by omega⟩; rw [hGG]; exact Q13, by dsimp only; omega⟩ (by dsimp only; omega)) (by (repeat first | exact LE.nil _ | refine LE.unk _ _ ?_ | refine LE.eq _ _ _ rfl ?_)) (LessH.refl _) (Nat.le_refl _)) | (exact D1 (ih ⟨i + 1, .view (mm + 1 + 1) 0 ((lyL G i).length + 1), mm + 1 + 1, mm + 1 + 1 + 1, GG⟩ ⟨by dsimp only; omega, fun j bb hj hb => by dsimp only; rw [hGG]; have h9 := hI.old j bb hj hb; dsimp only at h9; (simp (disch := (first | omega | assumption)) only [↓appC, ↓updN, ↓updS, ↓app0]); exact h9, by dsimp only; rw [lyL_n (of_decide_eq_false h5_2)]; refine .inr ⟨?_, ?_, by omega, by omega⟩; (rw [List.length_append]; rfl); (rw [hGG, List.map_append]; exact Q13), by dsimp only; omega⟩ (by dsimp only; omega)) (by (repeat first | exact LE.nil _ | refine LE.unk _ _ ?_ | refine LE.eq _ _ _ rfl ?_)) (LessH.refl _) (Nat.le_refl _))
   ·(apply C5 (vs := [.int _ _, .int _ _, .int _ _, .bool _, _, _, _, _]) j2; exact Q13; exact Q2; rfl; exact kb; rfl)
    refine E6 (es := [[.int _ _, .int _ _, .int _ _, .bool _, _, _, _, _]]) j4 kz kb rfl rfl ?_
    (apply eap (s' := 128) (es := [[.int _ _, .int _ _, .int _ _, .bool _, _, _, _, _]]) rfl rfl; exact Q13; exact j2; exact Q26; exact j2; exact kz; (first | rfl | (apply F3 rfl; exact Q13; (first | exact Nat.le_refl _ | omega); rfl)); exact Q5; exact Q3; exact Q3)
    refine K1 fun GG hGG => ?_
    refine B9 ?_
    first | (exact D1 (ih ⟨i + 1, .view b 0 (lyL G i).length, b, mm + 1, GG⟩ ⟨by dsimp only; omega, fun j bb hj hb => by dsimp only; rw [hGG]; have h9 := hI.old j bb hj hb; dsimp only at h9; (simp (disch := (first | omega | assumption)) only [↓appC, ↓updN, ↓updS, ↓app0]); exact h9, by dsimp only; rw [lyL_y (of_decide_eq_true h5_2)]; refine .inr ⟨rfl, ?_, by omega, by omega⟩; rw [hGG]; exact Q13, by dsimp only; omega⟩ (by dsimp only; omega)) (by (repeat first | exact LE.nil _ | refine LE.unk _ _ ?_ | refine LE.eq _ _ _ rfl ?_)) (LessH.refl _) (Nat.le_refl _)) | (exact D1 (ih ⟨i + 1, .view (mm + 1 + 1) 0 ((lyL G i).length + 1), mm + 1 + 1, mm + 1 + 1 + 1, GG⟩ ⟨by dsimp only; omega, fun j bb hj hb => by dsimp only; rw [hGG]; have h9 := hI.old j bb hj hb; dsimp only at h9; (simp (disch := (first | omega | assumption)) only [↓appC, ↓updN, ↓updS, ↓app0]); exact h9, by dsimp only; rw [lyL_n (of_decide_eq_false h5_2)]; refine .inr ⟨?_, ?_, by omega, by omega⟩; (rw [List.length_append]; rfl); (rw [hGG, List.map_append]; exact Q13), by dsimp only; omega⟩ (by dsimp only; omega)) (by (repeat first | exact LE.nil _ | refine LE.unk _ _ ?_ | refine LE.eq _ _ _ rfl ?_)) (LessH.refl _) (Nat.le_refl _))
  ·obtain rfl : i = G.rs.length := by omega
   exact ⟨(b, mm), ⟨by omega, by omega⟩, fiO rfl rfl (fun hz id2 b2 hb2 => by
    have hb2 : upd h b (some ⟨(ly G).map repV, 8, 54⟩) id2 = some b2 := hb2
    by_cases e : id2 = b
    ·subst e; rw [upd_same] at hb2; rw [← Option.some.inj hb2]; exact hb1
    ·rw [B4 _ _ e] at hb2
     refine hI.old id2 b2 ?_ hb2
     rcases Nat.lt_or_ge id2 n with h1 | h1
     ·exact h1
     ·rw [hz id2 h1] at hb2; cases hb2) (Nat.le_refl _)⟩
open Go.V
set_option linter.unusedVariables false
set_option linter.unusedSimpArgs false
set_option maxRecDepth 20000
set_option maxHeartbeats 4000000
structure LG where
 i : Nat
 o : V
 m : Nat
structure LM where
 i : Nat
 o : V
 m : Nat
 g : Heap
structure LmI (G : Grp) (h : Heap) (n b : Nat) (a : LM) : Prop where
 il : a.i ≤ (ly G).length
 ob : a.o = bO (lgB (ly G) a.i)
 old : ∀ j bb, j < n → h j = some bb → a.g j = some bb
 blk : a.g b = some ⟨(ly G).map repV, 8, 54⟩
 nm : n ≤ b ∧ b < a.m
def bS (l : List ByteArray) : V := if l = [] then .view 1 0 0 else .sl false false (l.map tT)
open Go.V
set_option linter.unusedVariables false
set_option linter.unusedSimpArgs false
set_option maxRecDepth 20000
set_option maxHeartbeats 4000000
theorem nd_sub {α : Type} [DecidableEq α] : ∀ {A B : List α}, A.Nodup → A ⊆ B → A.length ≤ B.length
 | [], _, _, _ => Nat.zero_le _
 | a :: A, B, hn, hs => by
  have ha : a ∈ B := hs List.mem_cons_self
  have hA : A ⊆ B.erase a := fun x hx => by
   have hx2 : x ≠ a := fun e => by subst e; exact (List.nodup_cons.1 hn).1 hx
   exact (List.mem_erase_of_ne hx2).2 (hs (List.mem_cons_of_mem _ hx))
  have := nd_sub (List.nodup_cons.1 hn).2 hA
  have hB : 0 < B.length := List.length_pos_of_mem ha
  rw [List.length_erase_of_mem ha] at this
  rw [List.length_cons]; omega
def lgG (G : Grp) (R : Rep) : Prop := R.lg = (lgO G).take R.lg.length
def agr (G : Grp) : Prop := ∀ j, j < G.rs.length → ¬ isF G.fa (j : Int) → lgG G (G.rs.getD j Rep0)
noncomputable instance dcAgr (G : Grp) : Decidable (G.OK ∧ agr G) := Classical.propDecidable _
noncomputable instance dcAgr2 (G : Grp) : Decidable (agr G) := Classical.propDecidable _
noncomputable instance dcLgG (G : Grp) (R : Rep) : Decidable (lgG G R) := Classical.propDecidable _
theorem N3 (G : Grp) : ∀ (i : Nat) (x : Rep), x ∈ lyL G i ↔ ∃ j, j < i ∧ ¬ isF G.fa (j : Int) ∧ x = G.rs.getD j Rep0
 | 0, x => by
  constructor
  ·intro h; cases h
  ·rintro ⟨j, hj, _⟩; exact absurd hj (Nat.not_lt_zero j)
 | i + 1, x => by
  by_cases h : isF G.fa (i : Int)
  ·rw [lyL_y h, N3 G i x]
   constructor
   ·rintro ⟨j, h1, h2, h3⟩; exact ⟨j, by omega, h2, h3⟩
   ·rintro ⟨j, h1, h2, h3⟩; exact ⟨j, by
     rcases Nat.lt_or_ge j i with q | q
     ·exact q
     ·rw [show j = i by omega] at h2; exact absurd h h2, h2, h3⟩
  ·rw [lyL_n h, List.mem_append, N3 G i x, List.mem_singleton]
   constructor
   ·rintro (⟨j, h1, h2, h3⟩ | rfl)
    ·exact ⟨j, by omega, h2, h3⟩
    ·exact ⟨i, by omega, h, rfl⟩
   ·rintro ⟨j, h1, h2, h3⟩
    rcases Nat.lt_or_ge j i with q | q
    ·exact .inl ⟨j, q, h2, h3⟩
    ·rw [show j = i by omega] at h3; exact .inr h3
theorem ly_ne {G : Grp} (h : G.OK) : ∀ i, G.rs.length ≤ i → lyL G i ≠ [] := by
 obtain ⟨⟨hn, ⟨hf, hr⟩, hl, _, _⟩, _⟩ := h
 intro i hi e
 have hF : (G.fa.length : Int) < G.nd := by rcases hn with e | e | e <;> rw [e] at hf ⊢ <;> omega
 have hp : 0 < G.nd := by rcases hn with e | e | e <;> omega
 have hall : ∀ j, j < G.rs.length → isF G.fa (j : Int) := fun j hj => Classical.byContradiction fun q => by
  have : G.rs.getD j Rep0 ∈ lyL G i := (N3 G i _).2 ⟨j, by omega, q, rfl⟩
  rw [e] at this; cases this
 have hsub : (List.range G.rs.length).map (fun (j : Nat) => (j : Int)) ⊆ G.fa := by
  intro x hx
  obtain ⟨j, hj, rfl⟩ := List.mem_map.1 hx
  obtain ⟨y, hy, rfl⟩ := hall j (List.mem_range.1 hj)
  exact hy
 have hnd : ((List.range G.rs.length).map (fun (j : Nat) => (j : Int))).Nodup := by
  refine List.Pairwise.map _ ?_ List.nodup_range
  intro a b e q; exact e (Int.ofNat.inj q)
 have hle : ((List.range G.rs.length).map (fun (j : Nat) => (j : Int))).length ≤ G.fa.length := nd_sub hnd hsub
 rw [List.length_map, List.length_range] at hle
 omega
noncomputable instance dcEqL (A B : List ByteArray) : Decidable (A = B) := Classical.propDecidable _
open Go.V
set_option linter.unusedVariables false
set_option linter.unusedSimpArgs false
set_option maxRecDepth 20000
set_option maxHeartbeats 4000000
theorem ctP {n : Int} (hn : nodes n) {c : Ct} : ctOK mk bare rdM dgB n c → 0 < c.ps.length := fun h => hce ⟨hn, h⟩
theorem r75 (R : Rep) (hn : nodes R.nd) (L : List Msg) (kd sq : Int) (hL : L.length ≤ 1048576) : Pure En 75 [.agg R.T, .one (.sl false (L.map Msg.T)), .one (.int .i64 kd), .one (.int .i64 sq)] [.one (.bool (decide (∀ i, i < L.length → arS R.nd kd R.vw sq L i)))] := by
 have hl : (L.map Msg.T).length = L.length := List.length_map ..
 refine Pure.of_ev (st := []) Tryz.func75 rfl kb ?_
 refine B1 (fun (a : Nat × Nat) => [.unk, .sl false false (L.map Msg.T), .int .i64 kd, .int .i64 sq, .ptr 0 0 0, .unk, .unk, .unk, .unk, .int .i64 a.1]) (fun (a : Nat × Nat) => hp [(0, ⟨[[.int .i64 R.id, .int .i64 R.nd, .int .i64 R.vw, .bool R.ac, .sl false false (R.sl.map Slt.T), .sl false false (R.cs.map (Ct.T false)), .sl false false (R.lg.map tT), .sl false false (R.ch.map Msg.T)]], 8, 54⟩)]) (fun (a : Nat × Nat) => a.2) (fun (a : Nat × Nat) => a.1 ≤ L.length ∧ 1 ≤ a.2 ∧ ∀ j, j < a.1 → arS R.nd kd R.vw sq L j) (fun (a : Nat × Nat) => L.length - a.1) (0, 1) ?_ ?_ ?_ ?_ ?_
 ·exact ⟨Nat.zero_le _, Nat.le_refl _, D9⟩
 ·(repeat first | exact LE.nil _ | refine LE.unk _ _ ?_ | refine LE.eq _ _ _ rfl ?_)
 ·(repeat first | exact A5 | (refine A6 ?_ ?_; exact F8))
 ·exact Nat.le_refl _
 intro ⟨i, m⟩ hI ih
 obtain ⟨u0, u1, u2⟩ := hI
 dsimp only at u0 u1 u2 ⊢
 refine A4 (st := []) ?_
 refine br ?_ ?_ <;> intro h2_3
 ·(refine C0 (C4 (by first | rfl | assumption | (first | exact A7 Slt.T Slt0 (k := i) (by omega) | exact A7 (Ct.T false) Ct0 (k := i) (by omega) | exact A7 tT ⟨#[]⟩ (k := i3) (by omega) | exact A7 Msg.T Msg0 (k := i) (by omega) | exact A7 Msg.T Msg0 (k := 0) (by omega) | (have e : ((i : Int) - 1).toNat = i - 1 := (by omega); rw [e]; exact A7 Msg.T Msg0 (k := i - 1) (by omega)))) rfl ?_))
  (apply est (u := .agg [.int _ _, .int _ _, .int _ _, .int _ _, .str _, .str _, .str _]) j3; exact Q0; exact Q2; exact j4; exact kb; rfl)
  refine A2 ?_ (by exact Q0) (by exact Q2)
  refine br ?_ ?_ <;> intro h5_3
  ·refine A9 rfl ?_; intro q; obtain ⟨e1, e2, e3, ⟨_, e4⟩, e5⟩ := q i (by omega); first | omega | exact h5_21 e4 | (have := e5 (by omega); omega)
  ·refine A2 ?_ (by exact Q0) (by exact Q2)
   refine A2 ?_ (by exact Q0) (by exact Q2)
   refine br ?_ ?_ <;> intro h5_9
   ·refine A9 rfl ?_; intro q; obtain ⟨e1, e2, e3, ⟨_, e4⟩, e5⟩ := q i (by omega); first | omega | exact h5_21 e4 | (have := e5 (by omega); omega)
   ·refine A2 ?_ (by exact Q0) (by exact Q2)
    refine br ?_ ?_ <;> intro h5_15
    ·refine A9 rfl ?_; intro q; obtain ⟨e1, e2, e3, ⟨_, e4⟩, e5⟩ := q i (by omega); first | omega | exact h5_21 e4 | (have := e5 (by omega); omega)
    ·refine A2 ?_ (by exact Q0) (by exact Q2)
     (apply C5 (vs := [.int _ _, .int _ _, .int _ _, .int _ _, .str _, .str _, .str _]) j2; exact Q0; exact Q2; rfl; exact kb; rfl)
     refine B2 (r93 R.nd (L.getD i Msg0)) rfl j2 ?_ ?_ <;> intro h5_21
     ·refine br ?_ ?_ <;> intro h5_26
      ·refine B9 ?_
       (refine C0 (C4 (by first | rfl | assumption | (first | exact A7 Slt.T Slt0 (k := i) (by omega) | exact A7 (Ct.T false) Ct0 (k := i) (by omega) | exact A7 tT ⟨#[]⟩ (k := i3) (by omega) | exact A7 Msg.T Msg0 (k := i) (by omega) | exact A7 Msg.T Msg0 (k := 0) (by omega) | (have e : ((i : Int) - 1).toNat = i - 1 := (by omega); rw [e]; exact A7 Msg.T Msg0 (k := i - 1) (by omega)))) rfl ?_))
       refine A2 ?_ (by exact Q0) (by exact Q2)
       refine br ?_ ?_ <;> intro h5_36
       ·refine A9 rfl ?_; intro q; obtain ⟨e1, e2, e3, ⟨_, e4⟩, e5⟩ := q i (by omega); first | omega | exact h5_21 e4 | (have := e5 (by omega); omega)
       ·refine B9 ?_
        exact D1 (ih (i + 1, m + 1) ⟨by dsimp only; omega, by dsimp only; omega, C9 u2 ⟨by omega, by omega, by omega, ⟨hn, h5_21⟩, fun _ => by omega⟩⟩ (by dsimp only; omega)) (by (repeat first | exact LE.nil _ | refine LE.unk _ _ ?_ | refine LE.eq _ _ _ rfl ?_)) (by (repeat first | exact A5 | (refine A6 ?_ ?_; exact F8))) (Nat.le_refl _)
      ·refine B9 ?_
       exact D1 (ih (i + 1, m + 1) ⟨by dsimp only; omega, by dsimp only; omega, C9 u2 ⟨by omega, by omega, by omega, ⟨hn, h5_21⟩, fun _ => by omega⟩⟩ (by dsimp only; omega)) (by (repeat first | exact LE.nil _ | refine LE.unk _ _ ?_ | refine LE.eq _ _ _ rfl ?_)) (by (repeat first | exact A5 | (refine A6 ?_ ?_; exact F8))) (Nat.le_refl _)
     ·refine A9 rfl ?_; intro q; obtain ⟨e1, e2, e3, ⟨_, e4⟩, e5⟩ := q i (by omega); first | omega | exact h5_21 e4 | (have := e5 (by omega); omega)
 ·refine B7 rfl ?_; exact fun j hj => u2 j (by omega)
theorem r27 (R : Rep) (hb : TBs 1048576 R.T) : Pure En 27 [.agg R.T] [.one (.bool (decide R.OK))] := by
 obtain ⟨hS0, hS1, hS2, hC0, hC1, hG0, hM0⟩ := Rep.sm hb
 have hl1 : (R.sl.map Slt.T).length = R.sl.length := List.length_map ..
 have hl2 : (R.cs.map (Ct.T false)).length = R.cs.length := List.length_map ..
 have hl3 : (R.lg.map tT).length = R.lg.length := List.length_map ..
 have hl4 : (R.ch.map Msg.T).length = R.ch.length := List.length_map ..
 refine Pure.of_ev (st := []) Tryz.func27 rfl kb ?_
 refine A2 ?_ (by exact Q0) (by exact Q2)
 refine B2 (s49 R.nd) rfl j2 ?_ ?_ <;> intro h1_2
 ·refine A2 ?_ (by exact Q0) (by exact Q2)
  refine A2 ?_ (by exact Q0) (by exact Q2)
  refine D4 ⟨by exact F5, by exact F5⟩ ?_
  refine B2 (s50 _ _ _) rfl j2 ?_ ?_ <;> intro h1_10
  ·refine A2 ?_ (by exact Q0) (by exact Q2)
   refine B2 (s50 _ _ _) rfl j2 ?_ ?_ <;> intro h1_16
   ·refine A2 ?_ (by exact Q0) (by exact Q2)
    refine br ?_ ?_ <;> intro h1_23
    ·refine A9 rfl ?_; rintro ⟨⟨q1, q2, q3, q4, q5, q6, q7⟩, _⟩; first | exact h1_2 q1 | exact h1_10 q2 | exact h1_16 q3 | omega
    ·refine A2 ?_ (by exact Q0) (by exact Q2)
     refine br ?_ ?_ <;> intro h1_29
     ·refine A9 rfl ?_; rintro ⟨⟨q1, q2, q3, q4, q5, q6, q7⟩, _⟩; first | exact h1_2 q1 | exact h1_10 q2 | exact h1_16 q3 | omega
     ·refine A2 ?_ (by exact Q0) (by exact Q2)
      refine br ?_ ?_ <;> intro h1_35
      ·refine A9 rfl ?_; rintro ⟨⟨q1, q2, q3, q4, q5, q6, q7⟩, _⟩; first | exact h1_2 q1 | exact h1_10 q2 | exact h1_16 q3 | omega
      ·refine A2 ?_ (by exact Q0) (by exact Q2)
       refine A2 ?_ (by exact Q0) (by exact Q2)
       refine br ?_ ?_ <;> intro h1_43
       ·refine A9 rfl ?_; rintro ⟨⟨q1, q2, q3, q4, q5, q6, q7⟩, _⟩; first | exact h1_2 q1 | exact h1_10 q2 | exact h1_16 q3 | omega
       ·refine B1 (fun (a : Nat × Nat) => [.unk, .ptr 0 0 0, .unk, .int .i64 a.1]) (fun (a : Nat × Nat) => hp [(0, ⟨[[.int .i64 R.id, .int .i64 R.nd, .int .i64 R.vw, .bool R.ac, .sl false false (R.sl.map Slt.T), .sl false false (R.cs.map (Ct.T false)), .sl false false (R.lg.map tT), .sl false false (R.ch.map Msg.T)]], 8, 54⟩)]) (fun (a : Nat × Nat) => a.2) (fun (a : Nat × Nat) => a.1 ≤ R.sl.length ∧ 1 ≤ a.2 ∧ (∀ j, j < a.1 → slOK R.nd R.vw ((j : Int) + 1) (R.sl.getD j Slt0)) ∧ ∀ j, j < a.1 → ceOK R.nd R.vw ((j : Int) + 1) (R.cs.getD j Ct0)) (fun (a : Nat × Nat) => R.sl.length - a.1) (0, 1) ?_ ?_ ?_ ?_ ?_
        ·exact ⟨Nat.zero_le _, Nat.le_refl _, D9, D9⟩
        ·(repeat first | exact LE.nil _ | refine LE.unk _ _ ?_ | refine LE.eq _ _ _ rfl ?_)
        ·(repeat first | exact A5 | (refine A6 ?_ ?_; exact F8))
        ·exact Nat.le_refl _
        intro ⟨i, m⟩ hI ih
        obtain ⟨u0, u1, u2, u3⟩ := hI
        dsimp only at u0 u1 u2 u3 ⊢
        have hsq : (R.cs.getD i Ct0).sq = ((R.cs.getD i Ct0).ps.getD 0 Msg0).sq := rfl
        have hvw : (R.cs.getD i Ct0).vw = ((R.cs.getD i Ct0).ps.getD 0 Msg0).vw := rfl
        have hl5 : ((R.cs.getD i Ct0).ps.map Msg.T).length = (R.cs.getD i Ct0).ps.length := List.length_map ..
        refine A4 (st := []) ?_
        refine br ?_ ?_ <;> intro h4_1
        ·refine A2 ?_ (by exact Q0) (by exact Q2)
         (refine C0 (C4 (by first | rfl | assumption | exact Q7) rfl ?_))
         (apply est (u := .agg [.str _, _, _, .bool _, .bool _]) j3; exact Q0; exact Q2; exact j4; exact kb; rfl)
         refine A2 ?_ (by exact Q0) (by exact Q2)
         refine br ?_ ?_ <;> intro h7_3
         ·refine A9 rfl ?_; rintro ⟨_, q2, _⟩; obtain ⟨e1, e2, e3⟩ := q2 i (by omega); first | exact h7_23 e2 | exact h7_32 e3 | exact h7_13 (e1 h7_7).2 | (have := e1 (fun e => by rw [e] at h7_3; exact absurd h7_3 (by decide)); omega)
         ·refine A2 ?_ (by exact Q0) (by exact Q2)
          refine br ?_ ?_ <;> intro h7_7
          ·refine A2 ?_ (by exact Q0) (by exact Q2)
           refine A2 ?_ (by exact Q0) (by exact Q2)
           refine B2 (r74 R.nd h1_2 (R.sl.getD i Slt0).bd (by omega)) rfl j2 ?_ ?_ <;> intro h7_13
           ·(apply C5 (vs := [.int _ _, .int _ _, .int _ _, .bool _, _, _, _, _]) j2; exact Q0; exact Q2; rfl; exact kb; rfl)
            refine A2 ?_ (by exact Q0) (by exact Q2)
            refine D4 ⟨by exact F5, by exact F5⟩ ?_
            refine B2 (r75 R h1_2 (R.sl.getD i Slt0).pr 2 ((i : Int) + 1) (hS1 i (by omega))) rfl j2 ?_ ?_ <;> intro h7_23
            ·(apply C5 (vs := [.int _ _, .int _ _, .int _ _, .bool _, _, _, _, _]) j2; exact Q0; exact Q2; rfl; exact kb; rfl)
             refine A2 ?_ (by exact Q0) (by exact Q2)
             refine D4 ⟨by exact F5, by exact F5⟩ ?_
             refine B2 (r75 R h1_2 (R.sl.getD i Slt0).cm 3 ((i : Int) + 1) (hS2 i (by omega))) rfl j2 ?_ ?_ <;> intro h7_32
             ·refine A2 ?_ (by exact Q0) (by exact Q2)
              (refine C0 (C4 (by first | rfl | assumption | exact Q7) rfl ?_))
              (apply est (u := .agg [.str _, _]) j3; exact Q0; exact Q2; exact j4; exact kb; rfl)
              refine A2 ?_ (by exact Q0) (by exact Q2)
              refine br ?_ ?_ <;> intro h10_3
              ·refine A2 ?_ (by exact Q0) (by exact Q2)
               refine br ?_ ?_ <;> intro h11_2
               ·refine A9 rfl ?_; rintro ⟨_, _, q3, _⟩; have := q3 i (by omega) (fun q => h11_2 q.1); have := hce ⟨h1_2, this.1⟩; omega
               ·refine D4 ⟨by exact F5, by exact F5⟩ ?_
                exact D1 (ih (i + 1, m + 1 + 1) ⟨by dsimp only; omega, by dsimp only; omega, C9 u2 ⟨fun q => by first | exact absurd q h7_7 | exact ⟨by omega, h7_13⟩, h7_23, h7_32⟩, C9 u3 (fun q => by first | exact ⟨h13_3, by omega, by omega⟩ | exact absurd ⟨Classical.not_not.1 h11_2, by omega⟩ q)⟩ (by dsimp only; omega)) (by (repeat first | exact LE.nil _ | refine LE.unk _ _ ?_ | refine LE.eq _ _ _ rfl ?_)) (by (repeat first | exact A5 | (refine A6 ?_ ?_; exact F8))) (Nat.le_refl _)
              ·have hq0 := ctP h1_2 (c := R.cs.getD i Ct0)
               refine A2 ?_ (by exact Q0) (by exact Q2)
               (apply C5 (vs := [.str _, _]) j2; exact Q0; exact Q2; rfl; exact kb; rfl)
               refine B2 (r76 R.nd h1_2 (R.cs.getD i Ct0) false) rfl j2 ?_ ?_ <;> intro h13_3
               ·refine A2 ?_ (by exact Q0) (by exact Q2)
                (refine C0 (C4 (by first | rfl | assumption | exact Q7) rfl ?_))
                refine D4 ⟨by exact F5, by exact F5⟩ ?_
                refine br ?_ ?_ <;> intro h13_13
                ·refine A9 rfl ?_; rintro ⟨_, _, q3, _⟩; obtain ⟨e1, e2, e3⟩ := q3 i (by omega) (fun q => absurd q.2 (by omega)); first | exact h13_3 e1 | omega
                ·refine A2 ?_ (by exact Q0) (by exact Q2)
                 (refine C0 (C4 (by first | rfl | assumption | exact Q7) rfl ?_))
                 refine A2 ?_ (by exact Q0) (by exact Q2)
                 refine br ?_ ?_ <;> intro h13_23
                 ·refine A9 rfl ?_; rintro ⟨_, _, q3, _⟩; obtain ⟨e1, e2, e3⟩ := q3 i (by omega) (fun q => absurd q.2 (by omega)); first | exact h13_3 e1 | omega
                 ·refine D4 ⟨by exact F5, by exact F5⟩ ?_
                  exact D1 (ih (i + 1, m + 1 + 1) ⟨by dsimp only; omega, by dsimp only; omega, C9 u2 ⟨fun q => by first | exact absurd q h7_7 | exact ⟨by omega, h7_13⟩, h7_23, h7_32⟩, C9 u3 (fun q => by first | exact ⟨h13_3, by omega, by omega⟩ | exact absurd ⟨Classical.not_not.1 h11_2, by omega⟩ q)⟩ (by dsimp only; omega)) (by (repeat first | exact LE.nil _ | refine LE.unk _ _ ?_ | refine LE.eq _ _ _ rfl ?_)) (by (repeat first | exact A5 | (refine A6 ?_ ?_; exact F8))) (Nat.le_refl _)
               ·refine A9 rfl ?_; rintro ⟨_, _, q3, _⟩; obtain ⟨e1, e2, e3⟩ := q3 i (by omega) (fun q => absurd q.2 (by omega)); first | exact h13_3 e1 | omega
             ·refine A9 rfl ?_; rintro ⟨_, q2, _⟩; obtain ⟨e1, e2, e3⟩ := q2 i (by omega); first | exact h7_23 e2 | exact h7_32 e3 | exact h7_13 (e1 h7_7).2 | (have := e1 (fun e => by rw [e] at h7_3; exact absurd h7_3 (by decide)); omega)
            ·refine A9 rfl ?_; rintro ⟨_, q2, _⟩; obtain ⟨e1, e2, e3⟩ := q2 i (by omega); first | exact h7_23 e2 | exact h7_32 e3 | exact h7_13 (e1 h7_7).2 | (have := e1 (fun e => by rw [e] at h7_3; exact absurd h7_3 (by decide)); omega)
           ·refine A9 rfl ?_; rintro ⟨_, q2, _⟩; obtain ⟨e1, e2, e3⟩ := q2 i (by omega); first | exact h7_23 e2 | exact h7_32 e3 | exact h7_13 (e1 h7_7).2 | (have := e1 (fun e => by rw [e] at h7_3; exact absurd h7_3 (by decide)); omega)
          ·(apply C5 (vs := [.int _ _, .int _ _, .int _ _, .bool _, _, _, _, _]) j2; exact Q0; exact Q2; rfl; exact kb; rfl)
           refine A2 ?_ (by exact Q0) (by exact Q2)
           refine D4 ⟨by exact F5, by exact F5⟩ ?_
           refine B2 (r75 R h1_2 (R.sl.getD i Slt0).pr 2 ((i : Int) + 1) (hS1 i (by omega))) rfl j2 ?_ ?_ <;> intro h7_23
           ·(apply C5 (vs := [.int _ _, .int _ _, .int _ _, .bool _, _, _, _, _]) j2; exact Q0; exact Q2; rfl; exact kb; rfl)
            refine A2 ?_ (by exact Q0) (by exact Q2)
            refine D4 ⟨by exact F5, by exact F5⟩ ?_
            refine B2 (r75 R h1_2 (R.sl.getD i Slt0).cm 3 ((i : Int) + 1) (hS2 i (by omega))) rfl j2 ?_ ?_ <;> intro h7_32
            ·refine A2 ?_ (by exact Q0) (by exact Q2)
             (refine C0 (C4 (by first | rfl | assumption | exact Q7) rfl ?_))
             (apply est (u := .agg [.str _, _]) j3; exact Q0; exact Q2; exact j4; exact kb; rfl)
             refine A2 ?_ (by exact Q0) (by exact Q2)
             refine br ?_ ?_ <;> intro h10_3
             ·refine A2 ?_ (by exact Q0) (by exact Q2)
              refine br ?_ ?_ <;> intro h11_2
              ·refine A9 rfl ?_; rintro ⟨_, _, q3, _⟩; have := q3 i (by omega) (fun q => h11_2 q.1); have := hce ⟨h1_2, this.1⟩; omega
              ·refine D4 ⟨by exact F5, by exact F5⟩ ?_
               exact D1 (ih (i + 1, m + 1 + 1) ⟨by dsimp only; omega, by dsimp only; omega, C9 u2 ⟨fun q => by first | exact absurd q h7_7 | exact ⟨by omega, h7_13⟩, h7_23, h7_32⟩, C9 u3 (fun q => by first | exact ⟨h13_3, by omega, by omega⟩ | exact absurd ⟨Classical.not_not.1 h11_2, by omega⟩ q)⟩ (by dsimp only; omega)) (by (repeat first | exact LE.nil _ | refine LE.unk _ _ ?_ | refine LE.eq _ _ _ rfl ?_)) (by (repeat first | exact A5 | (refine A6 ?_ ?_; exact F8))) (Nat.le_refl _)
             ·have hq0 := ctP h1_2 (c := R.cs.getD i Ct0)
              refine A2 ?_ (by exact Q0) (by exact Q2)
              (apply C5 (vs := [.str _, _]) j2; exact Q0; exact Q2; rfl; exact kb; rfl)
              refine B2 (r76 R.nd h1_2 (R.cs.getD i Ct0) false) rfl j2 ?_ ?_ <;> intro h13_3
              ·refine A2 ?_ (by exact Q0) (by exact Q2)
               (refine C0 (C4 (by first | rfl | assumption | exact Q7) rfl ?_))
               refine D4 ⟨by exact F5, by exact F5⟩ ?_
               refine br ?_ ?_ <;> intro h13_13
               ·refine A9 rfl ?_; rintro ⟨_, _, q3, _⟩; obtain ⟨e1, e2, e3⟩ := q3 i (by omega) (fun q => absurd q.2 (by omega)); first | exact h13_3 e1 | omega
               ·refine A2 ?_ (by exact Q0) (by exact Q2)
                (refine C0 (C4 (by first | rfl | assumption | exact Q7) rfl ?_))
                refine A2 ?_ (by exact Q0) (by exact Q2)
                refine br ?_ ?_ <;> intro h13_23
                ·refine A9 rfl ?_; rintro ⟨_, _, q3, _⟩; obtain ⟨e1, e2, e3⟩ := q3 i (by omega) (fun q => absurd q.2 (by omega)); first | exact h13_3 e1 | omega
                ·refine D4 ⟨by exact F5, by exact F5⟩ ?_
                 exact D1 (ih (i + 1, m + 1 + 1) ⟨by dsimp only; omega, by dsimp only; omega, C9 u2 ⟨fun q => by first | exact absurd q h7_7 | exact ⟨by omega, h7_13⟩, h7_23, h7_32⟩, C9 u3 (fun q => by first | exact ⟨h13_3, by omega, by omega⟩ | exact absurd ⟨Classical.not_not.1 h11_2, by omega⟩ q)⟩ (by dsimp only; omega)) (by (repeat first | exact LE.nil _ | refine LE.unk _ _ ?_ | refine LE.eq _ _ _ rfl ?_)) (by (repeat first | exact A5 | (refine A6 ?_ ?_; exact F8))) (Nat.le_refl _)
              ·refine A9 rfl ?_; rintro ⟨_, _, q3, _⟩; obtain ⟨e1, e2, e3⟩ := q3 i (by omega) (fun q => absurd q.2 (by omega)); first | exact h13_3 e1 | omega
            ·refine A9 rfl ?_; rintro ⟨_, q2, _⟩; obtain ⟨e1, e2, e3⟩ := q2 i (by omega); first | exact h7_23 e2 | exact h7_32 e3 | exact h7_13 (e1 h7_7).2 | (have := e1 (fun e => by rw [e] at h7_3; exact absurd h7_3 (by decide)); omega)
           ·refine A9 rfl ?_; rintro ⟨_, q2, _⟩; obtain ⟨e1, e2, e3⟩ := q2 i (by omega); first | exact h7_23 e2 | exact h7_32 e3 | exact h7_13 (e1 h7_7).2 | (have := e1 (fun e => by rw [e] at h7_3; exact absurd h7_3 (by decide)); omega)
        ·refine B1 (fun (a : Nat) => [.unk, .ptr 0 0 0, .unk, .unk, .unk, .unk, .int .i64 a]) (fun (a : Nat) => hp [(0, ⟨[[.int .i64 R.id, .int .i64 R.nd, .int .i64 R.vw, .bool R.ac, .sl false false (R.sl.map Slt.T), .sl false false (R.cs.map (Ct.T false)), .sl false false (R.lg.map tT), .sl false false (R.ch.map Msg.T)]], 8, 54⟩)]) (fun (a : Nat) => m) (fun (a : Nat) => a ≤ R.lg.length ∧ ∀ j, j < a → lgOK R.nd (R.lg.getD j ⟨#[]⟩)) (fun (a : Nat) => R.lg.length - a) 0 ?_ ?_ ?_ ?_ ?_
         ·exact ⟨Nat.zero_le _, D9⟩
         ·(repeat first | exact LE.nil _ | refine LE.unk _ _ ?_ | refine LE.eq _ _ _ rfl ?_)
         ·(repeat first | exact A5 | (refine A6 ?_ ?_; exact F8))
         ·exact Nat.le_refl _
         intro i3 hI ih
         obtain ⟨w0, w2⟩ := hI
         have hzz : (R.lg.getD ((i3 : Int)).toNat (⟨#[]⟩ : ByteArray)).size = (R.lg.getD i3 (⟨#[]⟩ : ByteArray)).size := rfl
         refine A4 (st := []) ?_
         refine A2 ?_ (by exact Q0) (by exact Q2)
         refine br ?_ ?_ <;> intro h16_4
         ·refine A2 ?_ (by exact Q0) (by exact Q2)
          (refine C0 (C4 (by first | rfl | assumption | exact Q7) rfl ?_))
          refine br ?_ ?_ <;> intro h18_6
          ·refine A9 rfl ?_; rintro ⟨_, _, _, q4, _⟩; obtain ⟨e1, e2⟩ := q4 i3 (by omega); first | omega | exact h18_15 e2
          ·refine A2 ?_ (by exact Q0) (by exact Q2)
           refine A2 ?_ (by exact Q0) (by exact Q2)
           (refine C0 (C4 (by first | rfl | assumption | exact Q7) rfl ?_))
           refine B2 (r74 R.nd h1_2 (R.lg.getD i3 ⟨#[]⟩) (by omega)) rfl j2 ?_ ?_ <;> intro h18_15
           ·refine D4 ⟨by exact F5, by exact F5⟩ ?_
            exact D1 (ih (i3 + 1) ⟨by omega, C9 w2 ⟨by omega, h18_15⟩⟩ (by omega)) (by (repeat first | exact LE.nil _ | refine LE.unk _ _ ?_ | refine LE.eq _ _ _ rfl ?_)) (by (repeat first | exact A5 | (refine A6 ?_ ?_; exact F8))) (Nat.le_refl _)
           ·refine A9 rfl ?_; rintro ⟨_, _, _, q4, _⟩; obtain ⟨e1, e2⟩ := q4 i3 (by omega); first | omega | exact h18_15 e2
         ·refine B1 (fun (a : Nat × Nat) => [.unk, .ptr 0 0 0, .unk, .unk, .unk, .unk, .unk, .int .i64 a.1]) (fun (a : Nat × Nat) => hp [(0, ⟨[[.int .i64 R.id, .int .i64 R.nd, .int .i64 R.vw, .bool R.ac, .sl false false (R.sl.map Slt.T), .sl false false (R.cs.map (Ct.T false)), .sl false false (R.lg.map tT), .sl false false (R.ch.map Msg.T)]], 8, 54⟩)]) (fun (a : Nat × Nat) => a.2) (fun (a : Nat × Nat) => a.1 ≤ R.ch.length ∧ 1 ≤ a.2 ∧ ∀ j, j < a.1 → chOK R.nd R.vw R.ch j) (fun (a : Nat × Nat) => R.ch.length - a.1) (0, m) ?_ ?_ ?_ ?_ ?_
          ·exact ⟨Nat.zero_le _, u1, D9⟩
          ·(repeat first | exact LE.nil _ | refine LE.unk _ _ ?_ | refine LE.eq _ _ _ rfl ?_)
          ·(repeat first | exact A5 | (refine A6 ?_ ?_; exact F8))
          ·exact Nat.le_refl _
          intro ⟨i4, m4⟩ hI ih
          obtain ⟨x0, x1, x2⟩ := hI
          dsimp only at x0 x1 x2 ⊢
          refine A4 (st := []) ?_
          refine A2 ?_ (by exact Q0) (by exact Q2)
          refine br ?_ ?_ <;> intro h21_4
          ·refine A2 ?_ (by exact Q0) (by exact Q2)
           (refine C0 (C4 (by first | rfl | assumption | exact Q7) rfl ?_))
           (apply est (u := .agg [.int _ _, .int _ _, .int _ _, .int _ _, .str _, .str _, .str _]) j3; exact Q0; exact Q2; exact j4; exact kb; rfl)
           refine A2 ?_ (by exact Q0) (by exact Q2)
           (apply C5 (vs := [.int _ _, .int _ _, .int _ _, .int _ _, .str _, .str _, .str _]) j2; exact Q0; exact Q2; rfl; exact kb; rfl)
           refine C2 (r77 R.nd h1_2 (R.ch.getD i4 Msg0)) rfl rfl rfl ?_
           refine brB ?_ ?_ <;> intro h24_6
           ·refine A2 ?_ (by exact Q0) (by exact Q2)
            refine A2 ?_ (by exact Q0) (by exact Q2)
            refine br ?_ ?_ <;> intro h25_7
            ·refine A9 rfl ?_; rintro ⟨_, _, _, _, q5⟩; obtain ⟨e1, e2, e3, e4⟩ := q5 i4 (by omega); first | exact of_decide_eq_false h24_6 e1 | omega | (have := e4 (by omega); omega)
            ·refine A2 ?_ (by exact Q0) (by exact Q2)
             refine A2 ?_ (by exact Q0) (by exact Q2)
             (refine C0 (C4 (by first | rfl | assumption | exact Q7) rfl ?_))
             refine br ?_ ?_ <;> intro h25_17
             ·refine A9 rfl ?_; rintro ⟨_, _, _, _, q5⟩; obtain ⟨e1, e2, e3, e4⟩ := q5 i4 (by omega); first | exact of_decide_eq_false h24_6 e1 | omega | (have := e4 (by omega); omega)
             ·refine br ?_ ?_ <;> intro h25_21
              ·refine A2 ?_ (by exact Q0) (by exact Q2)
               refine D4 ⟨by exact F5, by exact F5⟩ ?_
               (refine C0 (C4 (by first | rfl | assumption | exact Q7) rfl ?_))
               refine A2 ?_ (by exact Q0) (by exact Q2)
               refine br ?_ ?_ <;> intro h25_32
               ·refine A9 rfl ?_; rintro ⟨_, _, _, _, q5⟩; obtain ⟨e1, e2, e3, e4⟩ := q5 i4 (by omega); first | exact of_decide_eq_false h24_6 e1 | omega | (have := e4 (by omega); omega)
               ·refine D4 ⟨by exact F5, by exact F5⟩ ?_
                exact D1 (ih (i4 + 1, m4 + 1) ⟨by dsimp only; omega, by dsimp only; omega, C9 x2 ⟨of_decide_eq_true h24_6, by omega, by omega, fun _ => by omega⟩⟩ (by dsimp only; omega)) (by (repeat first | exact LE.nil _ | refine LE.unk _ _ ?_ | refine LE.eq _ _ _ rfl ?_)) (by (repeat first | exact A5 | (refine A6 ?_ ?_; exact F8))) (Nat.le_refl _)
              ·refine D4 ⟨by exact F5, by exact F5⟩ ?_
               exact D1 (ih (i4 + 1, m4 + 1) ⟨by dsimp only; omega, by dsimp only; omega, C9 x2 ⟨of_decide_eq_true h24_6, by omega, by omega, fun _ => by omega⟩⟩ (by dsimp only; omega)) (by (repeat first | exact LE.nil _ | refine LE.unk _ _ ?_ | refine LE.eq _ _ _ rfl ?_)) (by (repeat first | exact A5 | (refine A6 ?_ ?_; exact F8))) (Nat.le_refl _)
           ·refine A9 rfl ?_; rintro ⟨_, _, _, _, q5⟩; obtain ⟨e1, e2, e3, e4⟩ := q5 i4 (by omega); first | exact of_decide_eq_false h24_6 e1 | omega | (have := e4 (by omega); omega)
          ·refine B7 rfl ?_; exact ⟨⟨h1_2, h1_10, h1_16, by omega, by omega, by omega, by omega⟩, fun j hj => u2 j (by omega), fun j hj => u3 j (by omega), fun j hj => w2 j (by omega), fun j hj => x2 j (by omega)⟩
   ·refine A9 rfl ?_; rintro ⟨⟨q1, q2, q3, q4, q5, q6, q7⟩, _⟩; first | exact h1_2 q1 | exact h1_10 q2 | exact h1_16 q3 | omega
  ·refine A9 rfl ?_; rintro ⟨⟨q1, q2, q3, q4, q5, q6, q7⟩, _⟩; first | exact h1_2 q1 | exact h1_10 q2 | exact h1_16 q3 | omega
 ·refine A9 rfl ?_; rintro ⟨⟨q1, q2, q3, q4, q5, q6, q7⟩, _⟩; first | exact h1_2 q1 | exact h1_10 q2 | exact h1_16 q3 | omega
open Go.V
set_option linter.unusedVariables false
set_option linter.unusedSimpArgs false
set_option maxRecDepth 20000
set_option maxHeartbeats 4000000
theorem r92 (n : Int) (hn : nodes n) (F : List Int) (b : Bool) (hF : F.length ≤ 1048576) : Pure En 92 [.one (.int .i64 n), .one (.sl b (F.map iT))] [.one (.bool (decide (fyOK n F)))] := by
 have hl : (F.map iT).length = F.length := List.length_map ..
 rcases hn with rfl | rfl | rfl
 ·refine Pure.of_ev (st := []) Tryz.func92 rfl kb ?_
  refine B9 ?_
  refine C0 ?_
  refine br ?_ ?_ <;> intro h1_5
  ·have hk : IntKind.i64.wrap (Int.tdiv (1 - 1) 3) = 0 := rfl
   refine A9 rfl ?_; rintro ⟨q1, _⟩; omega
  ·have hk : IntKind.i64.wrap (Int.tdiv (1 - 1) 3) = 0 := rfl
   have hk2 : (F.length : Int) ≤ 0 := by omega
   refine C7 (fun (i : Nat) => [.int .i64 1, .sl false b (F.map iT), .unk, .unk, .unk, .int .i64 i]) (fun (i : Nat) => i ≤ F.length ∧ ∀ j, j < i → (0 ≤ F.getD j 0 ∧ F.getD j 0 ≤ 1 - 1) ∧ (0 < j → F.getD (j - 1) 0 < F.getD j 0)) (fun (i : Nat) => F.length - i) 0 ?_ ?_ ?_
   ·exact ⟨Nat.zero_le _, D9⟩
   ·(repeat first | exact LE.nil _ | refine LE.unk _ _ ?_ | refine LE.eq _ _ _ rfl ?_)
   intro i hI ih
   obtain ⟨u0, u2⟩ := hI
   refine A4 (st := []) ?_
   refine br ?_ ?_ <;> intro h4_3
   ·(refine C0 (C4 (by first | rfl | assumption | exact Q17) rfl ?_))
    refine B9 ?_
    refine B2 (s50 _ _ _) rfl j2 ?_ ?_ <;> intro h6_6
    ·refine br ?_ ?_ <;> intro h6_10
     ·refine B9 ?_
      (refine C0 (C4 (by first | rfl | assumption | exact Q17) rfl ?_))
      (refine C0 (C4 (by first | rfl | assumption | exact Q17) rfl ?_))
      refine br ?_ ?_ <;> intro h6_21
      ·refine A9 rfl ?_; rintro ⟨_, q⟩; obtain ⟨e1, e2⟩ := q i (by omega); first | exact h6_6 e1 | (have := e2 (by omega); omega)
      ·refine B9 ?_
       exact P4 (ih (i + 1) ⟨by omega, C9 u2 ⟨h6_6, fun _ => by omega⟩⟩ (by omega)) (by (repeat first | exact LE.nil _ | refine LE.unk _ _ ?_ | refine LE.eq _ _ _ rfl ?_))
     ·refine B9 ?_
      exact P4 (ih (i + 1) ⟨by omega, C9 u2 ⟨h6_6, fun _ => by omega⟩⟩ (by omega)) (by (repeat first | exact LE.nil _ | refine LE.unk _ _ ?_ | refine LE.eq _ _ _ rfl ?_))
    ·refine A9 rfl ?_; rintro ⟨_, q⟩; obtain ⟨e1, e2⟩ := q i (by omega); first | exact h6_6 e1 | (have := e2 (by omega); omega)
   ·refine B7 rfl ?_; exact ⟨by omega, fun j hj => u2 j (by omega)⟩
 ·refine Pure.of_ev (st := []) Tryz.func92 rfl kb ?_
  refine B9 ?_
  refine C0 ?_
  refine br ?_ ?_ <;> intro h1_5
  ·have hk : IntKind.i64.wrap (Int.tdiv (4 - 1) 3) = 1 := rfl
   refine A9 rfl ?_; rintro ⟨q1, _⟩; omega
  ·have hk : IntKind.i64.wrap (Int.tdiv (4 - 1) 3) = 1 := rfl
   have hk2 : (F.length : Int) ≤ 1 := by omega
   refine C7 (fun (i : Nat) => [.int .i64 4, .sl false b (F.map iT), .unk, .unk, .unk, .int .i64 i]) (fun (i : Nat) => i ≤ F.length ∧ ∀ j, j < i → (0 ≤ F.getD j 0 ∧ F.getD j 0 ≤ 4 - 1) ∧ (0 < j → F.getD (j - 1) 0 < F.getD j 0)) (fun (i : Nat) => F.length - i) 0 ?_ ?_ ?_
   ·exact ⟨Nat.zero_le _, D9⟩
   ·(repeat first | exact LE.nil _ | refine LE.unk _ _ ?_ | refine LE.eq _ _ _ rfl ?_)
   intro i hI ih
   obtain ⟨u0, u2⟩ := hI
   refine A4 (st := []) ?_
   refine br ?_ ?_ <;> intro h4_3
   ·(refine C0 (C4 (by first | rfl | assumption | exact Q17) rfl ?_))
    refine B9 ?_
    refine B2 (s50 _ _ _) rfl j2 ?_ ?_ <;> intro h6_6
    ·refine br ?_ ?_ <;> intro h6_10
     ·refine B9 ?_
      (refine C0 (C4 (by first | rfl | assumption | exact Q17) rfl ?_))
      (refine C0 (C4 (by first | rfl | assumption | exact Q17) rfl ?_))
      refine br ?_ ?_ <;> intro h6_21
      ·refine A9 rfl ?_; rintro ⟨_, q⟩; obtain ⟨e1, e2⟩ := q i (by omega); first | exact h6_6 e1 | (have := e2 (by omega); omega)
      ·refine B9 ?_
       exact P4 (ih (i + 1) ⟨by omega, C9 u2 ⟨h6_6, fun _ => by omega⟩⟩ (by omega)) (by (repeat first | exact LE.nil _ | refine LE.unk _ _ ?_ | refine LE.eq _ _ _ rfl ?_))
     ·refine B9 ?_
      exact P4 (ih (i + 1) ⟨by omega, C9 u2 ⟨h6_6, fun _ => by omega⟩⟩ (by omega)) (by (repeat first | exact LE.nil _ | refine LE.unk _ _ ?_ | refine LE.eq _ _ _ rfl ?_))
    ·refine A9 rfl ?_; rintro ⟨_, q⟩; obtain ⟨e1, e2⟩ := q i (by omega); first | exact h6_6 e1 | (have := e2 (by omega); omega)
   ·refine B7 rfl ?_; exact ⟨by omega, fun j hj => u2 j (by omega)⟩
 ·refine Pure.of_ev (st := []) Tryz.func92 rfl kb ?_
  refine B9 ?_
  refine C0 ?_
  refine br ?_ ?_ <;> intro h1_5
  ·have hk : IntKind.i64.wrap (Int.tdiv (7 - 1) 3) = 2 := rfl
   refine A9 rfl ?_; rintro ⟨q1, _⟩; omega
  ·have hk : IntKind.i64.wrap (Int.tdiv (7 - 1) 3) = 2 := rfl
   have hk2 : (F.length : Int) ≤ 2 := by omega
   refine C7 (fun (i : Nat) => [.int .i64 7, .sl false b (F.map iT), .unk, .unk, .unk, .int .i64 i]) (fun (i : Nat) => i ≤ F.length ∧ ∀ j, j < i → (0 ≤ F.getD j 0 ∧ F.getD j 0 ≤ 7 - 1) ∧ (0 < j → F.getD (j - 1) 0 < F.getD j 0)) (fun (i : Nat) => F.length - i) 0 ?_ ?_ ?_
   ·exact ⟨Nat.zero_le _, D9⟩
   ·(repeat first | exact LE.nil _ | refine LE.unk _ _ ?_ | refine LE.eq _ _ _ rfl ?_)
   intro i hI ih
   obtain ⟨u0, u2⟩ := hI
   refine A4 (st := []) ?_
   refine br ?_ ?_ <;> intro h4_3
   ·(refine C0 (C4 (by first | rfl | assumption | exact Q17) rfl ?_))
    refine B9 ?_
    refine B2 (s50 _ _ _) rfl j2 ?_ ?_ <;> intro h6_6
    ·refine br ?_ ?_ <;> intro h6_10
     ·refine B9 ?_
      (refine C0 (C4 (by first | rfl | assumption | exact Q17) rfl ?_))
      (refine C0 (C4 (by first | rfl | assumption | exact Q17) rfl ?_))
      refine br ?_ ?_ <;> intro h6_21
      ·refine A9 rfl ?_; rintro ⟨_, q⟩; obtain ⟨e1, e2⟩ := q i (by omega); first | exact h6_6 e1 | (have := e2 (by omega); omega)
      ·refine B9 ?_
       exact P4 (ih (i + 1) ⟨by omega, C9 u2 ⟨h6_6, fun _ => by omega⟩⟩ (by omega)) (by (repeat first | exact LE.nil _ | refine LE.unk _ _ ?_ | refine LE.eq _ _ _ rfl ?_))
     ·refine B9 ?_
      exact P4 (ih (i + 1) ⟨by omega, C9 u2 ⟨h6_6, fun _ => by omega⟩⟩ (by omega)) (by (repeat first | exact LE.nil _ | refine LE.unk _ _ ?_ | refine LE.eq _ _ _ rfl ?_))
    ·refine A9 rfl ?_; rintro ⟨_, q⟩; obtain ⟨e1, e2⟩ := q i (by omega); first | exact h6_6 e1 | (have := e2 (by omega); omega)
   ·refine B7 rfl ?_; exact ⟨by omega, fun j hj => u2 j (by omega)⟩
theorem r32 (G : Grp) (hb : TBs 1048576 G.T) : Pure En 32 [.agg G.T] [.one (.bool (decide G.OK))] := by
 obtain ⟨hF, hR0, hR, hW, hS⟩ := Grp.sm hb
 have hl1 : (G.fa.map iT).length = G.fa.length := List.length_map ..
 have hl2 : (G.rs.map Rep.T).length = G.rs.length := List.length_map ..
 have hl3 : (G.wi.map Pc.T).length = G.wi.length := List.length_map ..
 have hl4 : (G.se.map Msg.T).length = G.se.length := List.length_map ..
 refine Pure.of_ev (st := []) Tryz.func32 rfl kb ?_
 refine A2 ?_ (by exact Q0) (by exact Q2)
 refine B2 (s49 G.nd) rfl j2 ?_ ?_ <;> intro h1_2
 ·refine A2 ?_ (by exact Q0) (by exact Q2)
  refine A2 ?_ (by exact Q0) (by exact Q2)
  refine B2 (r92 G.nd h1_2 G.fa false hF) rfl j2 ?_ ?_ <;> intro h1_9
  ·refine A2 ?_ (by exact Q0) (by exact Q2)
   refine A2 ?_ (by exact Q0) (by exact Q2)
   refine br ?_ ?_ <;> intro h1_18
   ·refine A9 rfl ?_; rintro ⟨⟨q1, q2, q3, q4, q5⟩, _⟩; first | exact h1_2 q1 | exact h1_9 q2 | omega
   ·refine A2 ?_ (by exact Q0) (by exact Q2)
    refine br ?_ ?_ <;> intro h1_24
    ·refine A9 rfl ?_; rintro ⟨⟨q1, q2, q3, q4, q5⟩, _⟩; first | exact h1_2 q1 | exact h1_9 q2 | omega
    ·refine A2 ?_ (by exact Q0) (by exact Q2)
     refine br ?_ ?_ <;> intro h1_30
     ·refine A9 rfl ?_; rintro ⟨⟨q1, q2, q3, q4, q5⟩, _⟩; first | exact h1_2 q1 | exact h1_9 q2 | omega
     ·refine B1 (fun (i : Nat) => [.unk, .ptr 0 0 0, .unk, .int .i64 i]) (fun (i : Nat) => hp [(0, ⟨[[.int .i64 G.nd, .sl false false (G.fa.map iT), .sl false false (G.rs.map Rep.T), .sl false false (G.wi.map Pc.T), .sl false false (G.se.map Msg.T)]], 5, 67⟩)]) (fun (i : Nat) => 1) (fun (i : Nat) => i ≤ G.rs.length ∧ ∀ j, j < i → rsOK G.nd G.rs j) (fun (i : Nat) => G.rs.length - i) 0 ?_ ?_ ?_ ?_ ?_
      ·exact ⟨Nat.zero_le _, D9⟩
      ·(repeat first | exact LE.nil _ | refine LE.unk _ _ ?_ | refine LE.eq _ _ _ rfl ?_)
      ·(repeat first | exact A5 | (refine A6 ?_ ?_; exact F8))
      ·exact Nat.le_refl _
      intro i hI ih
      obtain ⟨u0, u2⟩ := hI
      refine A4 (st := []) ?_
      refine A2 ?_ (by exact Q0) (by exact Q2)
      refine br ?_ ?_ <;> intro h4_3
      ·refine A2 ?_ (by exact Q0) (by exact Q2)
       (refine C0 (C4 (by first | rfl | assumption | exact Q31) rfl ?_))
       refine br ?_ ?_ <;> intro h6_7
       ·refine A9 rfl ?_; rintro ⟨_, q2, _⟩; obtain ⟨e1, e2, e3⟩ := q2 i (by omega); first | omega | exact h6_25 e3
       ·refine A2 ?_ (by exact Q0) (by exact Q2)
        (refine C0 (C4 (by first | rfl | assumption | exact Q31) rfl ?_))
        refine A2 ?_ (by exact Q0) (by exact Q2)
        refine br ?_ ?_ <;> intro h6_17
        ·refine A9 rfl ?_; rintro ⟨_, q2, _⟩; obtain ⟨e1, e2, e3⟩ := q2 i (by omega); first | omega | exact h6_25 e3
        ·refine A2 ?_ (by exact Q0) (by exact Q2)
         (refine C0 (C4 (by first | rfl | assumption | exact Q31) rfl ?_))
         refine B2 (r27 (G.rs.getD i Rep0) (hR i (by omega))) rfl j2 ?_ ?_ <;> intro h6_25
         ·refine D4 ⟨by exact F5, by exact F5⟩ ?_
          exact D1 (ih (i + 1) ⟨by omega, C9 u2 ⟨by omega, by omega, h6_25⟩⟩ (by omega)) (by (repeat first | exact LE.nil _ | refine LE.unk _ _ ?_ | refine LE.eq _ _ _ rfl ?_)) (by (repeat first | exact A5 | (refine A6 ?_ ?_; exact F8))) (Nat.le_refl _)
         ·refine A9 rfl ?_; rintro ⟨_, q2, _⟩; obtain ⟨e1, e2, e3⟩ := q2 i (by omega); first | omega | exact h6_25 e3
      ·refine B1 (fun (i2 : Nat) => [.unk, .ptr 0 0 0, .unk, .unk, .int .i64 i2]) (fun (i2 : Nat) => hp [(0, ⟨[[.int .i64 G.nd, .sl false false (G.fa.map iT), .sl false false (G.rs.map Rep.T), .sl false false (G.wi.map Pc.T), .sl false false (G.se.map Msg.T)]], 5, 67⟩)]) (fun (i2 : Nat) => 1) (fun (i2 : Nat) => i2 ≤ G.wi.length ∧ ∀ j, j < i2 → pcOK G.nd (G.wi.getD j Pc0)) (fun (i2 : Nat) => G.wi.length - i2) 0 ?_ ?_ ?_ ?_ ?_
       ·exact ⟨Nat.zero_le _, D9⟩
       ·(repeat first | exact LE.nil _ | refine LE.unk _ _ ?_ | refine LE.eq _ _ _ rfl ?_)
       ·(repeat first | exact A5 | (refine A6 ?_ ?_; exact F8))
       ·exact Nat.le_refl _
       intro i2 hI ih
       obtain ⟨v0, v2⟩ := hI
       refine A4 (st := []) ?_
       refine A2 ?_ (by exact Q0) (by exact Q2)
       refine br ?_ ?_ <;> intro h9_4
       ·refine A2 ?_ (by exact Q0) (by exact Q2)
        (refine C0 (C4 (by first | rfl | assumption | exact Q31) rfl ?_))
        refine A2 ?_ (by exact Q0) (by exact Q2)
        refine D4 ⟨by exact F5, by exact F5⟩ ?_
        refine B2 (s50 _ _ _) rfl j2 ?_ ?_ <;> intro h11_9
        ·refine A2 ?_ (by exact Q0) (by exact Q2)
         refine A2 ?_ (by exact Q0) (by exact Q2)
         (refine C0 (C4 (by first | rfl | assumption | exact Q31) rfl ?_))
         refine B2 (r93 G.nd (G.wi.getD i2 Pc0).ms) rfl j2 ?_ ?_ <;> intro h11_20
         ·refine D4 ⟨by exact F5, by exact F5⟩ ?_
          exact D1 (ih (i2 + 1) ⟨by omega, C9 v2 ⟨h11_9, h11_20⟩⟩ (by omega)) (by (repeat first | exact LE.nil _ | refine LE.unk _ _ ?_ | refine LE.eq _ _ _ rfl ?_)) (by (repeat first | exact A5 | (refine A6 ?_ ?_; exact F8))) (Nat.le_refl _)
         ·refine A9 rfl ?_; rintro ⟨_, _, q3, _⟩; obtain ⟨e1, e2⟩ := q3 i2 (by omega); first | exact h11_9 e1 | exact h11_20 e2
        ·refine A9 rfl ?_; rintro ⟨_, _, q3, _⟩; obtain ⟨e1, e2⟩ := q3 i2 (by omega); first | exact h11_9 e1 | exact h11_20 e2
       ·refine B1 (fun (i3 : Nat) => [.unk, .ptr 0 0 0, .unk, .unk, .unk, .int .i64 i3]) (fun (i3 : Nat) => hp [(0, ⟨[[.int .i64 G.nd, .sl false false (G.fa.map iT), .sl false false (G.rs.map Rep.T), .sl false false (G.wi.map Pc.T), .sl false false (G.se.map Msg.T)]], 5, 67⟩)]) (fun (i3 : Nat) => 1) (fun (i3 : Nat) => i3 ≤ G.se.length ∧ ∀ j, j < i3 → sgM G.nd (G.se.getD j Msg0)) (fun (i3 : Nat) => G.se.length - i3) 0 ?_ ?_ ?_ ?_ ?_
        ·exact ⟨Nat.zero_le _, D9⟩
        ·(repeat first | exact LE.nil _ | refine LE.unk _ _ ?_ | refine LE.eq _ _ _ rfl ?_)
        ·(repeat first | exact A5 | (refine A6 ?_ ?_; exact F8))
        ·exact Nat.le_refl _
        intro i3 hI ih
        obtain ⟨w0, w2⟩ := hI
        refine A4 (st := []) ?_
        refine A2 ?_ (by exact Q0) (by exact Q2)
        refine br ?_ ?_ <;> intro h14_4
        ·refine A2 ?_ (by exact Q0) (by exact Q2)
         refine A2 ?_ (by exact Q0) (by exact Q2)
         (refine C0 (C4 (by first | rfl | assumption | exact Q31) rfl ?_))
         refine B2 (r93 G.nd (G.se.getD i3 Msg0)) rfl j2 ?_ ?_ <;> intro h16_7
         ·refine D4 ⟨by exact F5, by exact F5⟩ ?_
          exact D1 (ih (i3 + 1) ⟨by omega, C9 w2 h16_7⟩ (by omega)) (by (repeat first | exact LE.nil _ | refine LE.unk _ _ ?_ | refine LE.eq _ _ _ rfl ?_)) (by (repeat first | exact A5 | (refine A6 ?_ ?_; exact F8))) (Nat.le_refl _)
         ·refine A9 rfl ?_; rintro ⟨_, _, _, q4⟩; exact h16_7 (q4 i3 (by omega))
        ·refine B7 rfl ?_; exact ⟨⟨h1_2, h1_9, by omega, by omega, by omega⟩, fun j hj => u2 j (by omega), fun j hj => v2 j (by omega), fun j hj => w2 j (by omega)⟩
  ·refine A9 rfl ?_; rintro ⟨⟨q1, q2, q3, q4, q5⟩, _⟩; first | exact h1_2 q1 | exact h1_9 q2 | omega
 ·refine A9 rfl ?_; rintro ⟨⟨q1, q2, q3, q4, q5⟩, _⟩; first | exact h1_2 q1 | exact h1_9 q2 | omega
open Go.V
set_option linter.unusedVariables false
set_option linter.unusedSimpArgs false
set_option maxRecDepth 20000
set_option maxHeartbeats 4000000
end Go.Proofs.YteifdelnahccjaaGreatDoor
namespace Go.V
open Go
set_option linter.unusedVariables false
set_option linter.unusedSimpArgs false
section ops
variable {E : Env} {o : Oper} {t : Nat → V} {h : Heap} {n : Nat}
theorem W7 {ty kt et : TypeId} {x y : Operand} {id i : Nat} {b : Blk} {k v : V} (ho : o.op = .lookup ty x y true) (hx : E.eval t x = .map id) (hm : mapP E.P ty = some (kt, et)) (K : WideMaps.KeyLaw E.P kt) (hb : h id = some b)
    (hks : KeysOK E.P kt b.es) (hy : E.eval t y = k) (hk : KeyOK E.P kt k) (hi : b.es[i]? = some [k, v]) (hu : ∀ (j : Nat) (x : V), b.es[j]? = some [k, x] → j = i) : OpOK E o t h n [id] false (.tup [v, .bool true]) [] n :=
  OpOK.value fun c ac h2 hx' hg hrd => by
    have g1 := hx' x (by simp [ho, Op.operands])
    have g2 := hx' y (by simp [ho, Op.operands])
    rw [hx] at g1; rw [hy] at g2
    obtain ⟨p, ⟨hp, hpm⟩, hv⟩ := g1.map_inv
    obtain ⟨es, q1, q2, q3, q4, q5, q6⟩ := U9 (hg.map (by rw [hrd id (by simp)]; exact hb) hp hpm) K hks hk g2 c.w
    rcases q6 with ⟨r1, r2⟩ | ⟨j, e, x', r1, r2, r3, r4, r5, r6⟩
    · exact absurd rfl (r2 i k v hi)
    · have hji := hu j x' r5
      subst hji
      rw [hi] at r5
      simp only [Option.some.injEq, List.cons.injEq, and_true, true_and] at r5
      subst r5
      refine ⟨.tuple #[e.val, .bool true], ?_, ?_⟩
      · simp [execOp, ho, hv, Instr.lookup, run_underlying (L1 hm), MapKept.run_getObj_map q1, q4, r1, Result.andThen]
      · refine .tup _ _ (by simp) fun i x u h1 h2 => ?_
        match i with
        | 0 => simp at h1 h2; subst h1; subst h2; exact r6
        | 1 => simp at h1 h2; subst h1; subst h2; exact .bool _
        | i + 2 => simp at h1
theorem U6 {ty kt et : TypeId} {x y : Operand} {id : Nat} {b : Blk} {k v : V} {z : Value} (ho : o.op = .lookup ty x y true) (hx : E.eval t x = .map id) (hm : mapP E.P ty = some (kt, et)) (K : WideMaps.KeyLaw E.P kt) (hb : h id = some b)
    (hks : KeysOK E.P kt b.es) (hy : E.eval t y = k) (hk : KeyOK E.P kt k) (hno : ∀ (j : Nat) (k' x : V), b.es[j]? = some [k', x] → k' ≠ k) (hz : zeroC E.P et = some z) (hzv : V.ofConst z = v) : OpOK E o t h n [id] false (.tup [v, .bool false]) [] n :=
  OpOK.value fun c ac h2 hx' hg hrd => by
    have g1 := hx' x (by simp [ho, Op.operands])
    have g2 := hx' y (by simp [ho, Op.operands])
    rw [hx] at g1; rw [hy] at g2
    obtain ⟨p, ⟨hp, hpm⟩, hv⟩ := g1.map_inv
    obtain ⟨es, q1, q2, q3, q4, q5, q6⟩ := U9 (hg.map (by rw [hrd id (by simp)]; exact hb) hp hpm) K hks hk g2 c.w
    rcases q6 with ⟨r1, r2⟩ | ⟨j, e, x', r1, r2, r3, r4, r5, r6⟩
    · refine ⟨.tuple #[z, .bool false], ?_, ?_⟩
      · simp [execOp, ho, hv, Instr.lookup, run_underlying (L1 hm), MapKept.run_getObj_map q1, q4, r1, zeroC_run hz, Result.andThen]
      · refine .tup _ _ (by simp) fun i x u h1 h2 => ?_
        match i with
        | 0 => simp at h1 h2; subst h1; subst h2; exact hzv ▸ E7 c z
        | 1 => simp at h1 h2; subst h1; subst h2; exact .bool _
        | i + 2 => simp at h1
    · exact absurd rfl (hno j k x' r5)
theorem O8 {ty kt et : TypeId} {x y z : Operand} {id : Nat} {b : Blk} {k u : V} (ho : o.op = .mapUpdate ty x y z) (hx : E.eval t x = .map id) (hm : mapP E.P ty = some (kt, et)) (K : WideMaps.KeyLaw E.P kt) (hb : h id = some b)
    (hks : KeysOK E.P kt b.es) (hy : E.eval t y = k) (hk : KeyOK E.P kt k) (hz : E.eval t z = u) (hno : ∀ (j : Nat) (k' x : V), b.es[j]? = some [k', x] → k' ≠ k) :
    OpOK E o t h n [id] false .unk [(id, some { b with es := b.es ++ [[k, u]] })] n := by
  intro c a h2 K2 Q hd hx' hg hrd _ hf hK
  have g1 := hx' x (by simp [ho, Op.operands])
  have g2 := hx' y (by simp [ho, Op.operands])
  have g3 := hx' z (by simp [ho, Op.operands])
  rw [hx] at g1; rw [hy] at g2; rw [hz] at g3
  obtain ⟨p, ⟨hp, hpm⟩, hv⟩ := g1.map_inv
  have hb2 : h2 id = some b := by rw [hrd id (by simp)]; exact hb
  obtain ⟨es, q1, q2, q3, q4, q5, q6⟩ := U9 (hg.map hb2 hp hpm) K hks hk g2 c.w
  rcases q6 with ⟨r1, r2⟩ | ⟨j, e, x', r1, r2, r3, r4, r5, r6⟩
  · have hex : (execOp a.eval o).run E.P c.w = .ok .skip (c.setMap p (.map (es.push { key := a.eval y, val := a.eval z, born := b.es.length }) (b.es.length + 1))).w := by
      simp [execOp, ho, hv, Instr.mapUpdate, run_underlying (L1 hm), MapKept.run_getObj_map q1, q4, r1, MapKept.run_setObj_map _ q1, Result.andThen, Cx.setMap]
    unfold Oper.wp
    rw [hex, Oper.upon_skip]
    obtain ⟨s1, s2⟩ := hg.setMap (b' := { b with es := b.es ++ [[k, u]] }) (o := .map (es.push { key := a.eval y, val := a.eval z, born := b.es.length }) (b.es.length + 1)) hb2 hp hpm (fun hxt => by
      refine ⟨_, by simp [Cx.setMap, (hg.own id p hp).2]; rfl, by simp [q2], fun i row hr => ?_⟩
      by_cases hi : i < b.es.length
      · rw [List.getElem?_append_left hi] at hr
        obtain ⟨e, k', x', u1, u2, u3, u4, u5⟩ := q3 i row hr
        exact ⟨e, k', x', by rw [Array.getElem?_push_lt (by omega)]; rw [(Array.getElem?_eq_some_iff.1 u1).2], u2, u3, u4.mono hxt, u5.mono hxt⟩
      · have hi' : i = b.es.length := by
          have := (List.getElem?_eq_some_iff.1 hr).1
          simp at this; omega
        subst hi'
        simp only [List.getElem?_append_right (Nat.le_refl _), Nat.sub_self, List.getElem?_cons_zero, Option.some.injEq] at hr
        subst hr
        exact ⟨_, k, u, by rw [← q2, Array.getElem?_push_size], rfl, q2, g2.mono hxt, g3.mono hxt⟩)
    exact hK _ _ s1 s2 (fun id h => .inl h) (.unk _)
  · exact absurd rfl (hno j k x' r5)
theorem P9 {ty kt et : TypeId} {x y z : Operand} {id i : Nat} {b : Blk} {k v u : V} (ho : o.op = .mapUpdate ty x y z) (hx : E.eval t x = .map id) (hm : mapP E.P ty = some (kt, et)) (K : WideMaps.KeyLaw E.P kt) (hb : h id = some b)
    (hks : KeysOK E.P kt b.es) (hy : E.eval t y = k) (hk : KeyOK E.P kt k) (hz : E.eval t z = u) (hi : b.es[i]? = some [k, v]) (hu : ∀ (j : Nat) (x : V), b.es[j]? = some [k, x] → j = i) :
    OpOK E o t h n [id] false .unk [(id, some { b with es := b.es.set i [k, u] })] n := by
  intro c a h2 K2 Q hd hx' hg hrd _ hf hK
  have g1 := hx' x (by simp [ho, Op.operands])
  have g2 := hx' y (by simp [ho, Op.operands])
  have g3 := hx' z (by simp [ho, Op.operands])
  rw [hx] at g1; rw [hy] at g2; rw [hz] at g3
  obtain ⟨p, ⟨hp, hpm⟩, hv⟩ := g1.map_inv
  have hb2 : h2 id = some b := by rw [hrd id (by simp)]; exact hb
  obtain ⟨es, q1, q2, q3, q4, q5, q6⟩ := U9 (hg.map hb2 hp hpm) K hks hk g2 c.w
  rcases q6 with ⟨r1, r2⟩ | ⟨j, e, x', r1, r2, r3, r4, r5, r6⟩
  · exact absurd rfl (r2 i k v hi)
  · have hji := hu j x' r5
    subst hji
    have hlt : j < b.es.length := (List.getElem?_eq_some_iff.1 hi).1
    have hex : (execOp a.eval o).run E.P c.w = .ok .skip (c.setMap p (.map (es.modify j fun e => { e with key := a.eval y, val := a.eval z }) b.es.length)).w := by
      simp [execOp, ho, hv, Instr.mapUpdate, run_underlying (L1 hm), MapKept.run_getObj_map q1, q4, r1, r2, r3, q5, MapKept.run_setObj_map _ q1, Result.andThen, Cx.setMap]
    unfold Oper.wp
    rw [hex, Oper.upon_skip]
    obtain ⟨s1, s2⟩ := hg.setMap (b' := { b with es := b.es.set j [k, u] }) (o := .map (es.modify j fun e => { e with key := a.eval y, val := a.eval z }) b.es.length) hb2 hp hpm (fun hxt => by
      refine ⟨_, by simp [Cx.setMap, (hg.own id p hp).2]; rfl, by simp [q2], fun m row hr => ?_⟩
      by_cases hm' : m = j
      · subst hm'
        simp only [List.getElem?_set_self hlt, Option.some.injEq] at hr
        subst hr
        exact ⟨{ e with key := a.eval y, val := a.eval z }, k, u, by simp [Array.getElem?_modify, r2], rfl, r4, g2.mono hxt, g3.mono hxt⟩
      · rw [List.getElem?_set_ne (Ne.symm hm')] at hr
        obtain ⟨e', k', x', u1, u2, u3, u4, u5⟩ := q3 m row hr
        exact ⟨e', k', x', by simp [Array.getElem?_modify, Ne.symm hm', u1], u2, u3, u4.mono hxt, u5.mono hxt⟩)
    exact hK _ _ s1 s2 (fun id h => .inl h) (.unk _)
end ops
end Go.V
namespace Go.V
open Go
set_option linter.unusedVariables false
section
variable {E : Env} {o : Oper} {t : Nat → V} {h : Heap} {n : Nat} {K : EK} {ty kt et : TypeId} {x y z : Operand} {i m : Nat} {B : Blk} {k u v : V}
theorem el2h (m : Nat) (G0 : o.op = .lookup ty x y true ∧ E.eval t x = .map i ∧ mapP E.P ty = some (kt, et)) (KL : WideMaps.KeyLaw E.P kt) (hb : h i = some B) (hks : KeysOK E.P kt B.es) (hy : E.eval t y = k) (hk : KeyOK E.P kt k) (hi : B.es[m]? = some [k, v]) (hu : ∀ (j : Nat) (x : V), B.es[j]? = some [k, x] → j = m) (w : K (.tup [v, .bool true]) [i] false none n) : Eff E o t h n K := have ⟨ho, hx, hm⟩ := G0; .one (W7 ho hx hm KL hb hks hy hk hi hu) w
theorem el2m {zv : Value} (G0 : o.op = .lookup ty x y true ∧ E.eval t x = .map i ∧ mapP E.P ty = some (kt, et)) (KL : WideMaps.KeyLaw E.P kt) (hb : h i = some B) (hks : KeysOK E.P kt B.es) (hy : E.eval t y = k) (hk : KeyOK E.P kt k) (hno : ∀ (j : Nat) (k' x : V), B.es[j]? = some [k', x] → k' ≠ k) (G1 : zeroC E.P et = some zv ∧ V.ofConst zv = v) (w : K (.tup [v, .bool false]) [i] false none n) : Eff E o t h n K := have ⟨ho, hx, hm⟩ := G0; have ⟨hz, hzv⟩ := G1; .one (U6 ho hx hm KL hb hks hy hk hno hz hzv) w
theorem emuh (m : Nat) (G0 : o.op = .mapUpdate ty x y z ∧ E.eval t x = .map i ∧ mapP E.P ty = some (kt, et)) (KL : WideMaps.KeyLaw E.P kt) (hb : h i = some B) (hks : KeysOK E.P kt B.es) (hy : E.eval t y = k) (hk : KeyOK E.P kt k) (hz : E.eval t z = u) (hi : B.es[m]? = some [k, v]) (hu : ∀ (j : Nat) (x : V), B.es[j]? = some [k, x] → j = m) (w : K .unk [i] false (some [(i, some { B with es := B.es.set m [k, u] })]) n) : Eff E o t h n K := have ⟨ho, hx, hm⟩ := G0; .two (P9 ho hx hm KL hb hks hy hk hz hi hu) (Nat.le_refl _) w
theorem emum (G0 : o.op = .mapUpdate ty x y z ∧ E.eval t x = .map i ∧ mapP E.P ty = some (kt, et)) (KL : WideMaps.KeyLaw E.P kt) (hb : h i = some B) (hks : KeysOK E.P kt B.es) (hy : E.eval t y = k) (hk : KeyOK E.P kt k) (hz : E.eval t z = u) (hno : ∀ (j : Nat) (k' x : V), B.es[j]? = some [k', x] → k' ≠ k) (w : K .unk [i] false (some [(i, some { B with es := B.es ++ [[k, u]] })]) n) : Eff E o t h n K := have ⟨ho, hx, hm⟩ := G0; .two (O8 ho hx hm KL hb hks hy hk hz hno) (Nat.le_refl _) w
end
end Go.V
namespace Go.Proofs.YteifdelnahccjaaGreatDoor
open Go.V
set_option linter.unusedVariables false
set_option linter.unusedSimpArgs false
set_option maxRecDepth 20000
set_option maxHeartbeats 4000000
open Go
theorem keyL2 : WideMaps.KeyLaw En.P 142 := deep_law (m := 2) (by decide) (by kernel_rfl) (by kernel_rfl) (by kernel_rfl)
theorem lit3 {d : Nat} {n : Int} (h : -9223372036854775808 ≤ n ∧ n ≤ 9223372036854775807) : En.P.keyLits (d + 1) 3 [.int .i64 n] = some [.int .i64 n] := by
 have hu : En.P.underlying 3 = some (.int .i64) := by kernel_rfl
 have hw : (Lit.int .i64 n).wf = true := by
  simp only [Lit.wf, Bool.and_eq_true, decide_eq_true_eq]
  exact ⟨by have : IntKind.i64.min = -9223372036854775808 := rfl; omega, by have : IntKind.i64.max = 9223372036854775807 := rfl; omega⟩
 unfold Program.keyLits
 rw [hu]
 simp [hw]
theorem key2 (a b : Int) (ha : -9223372036854775808 ≤ a ∧ a ≤ 9223372036854775807) (hb : -9223372036854775808 ≤ b ∧ b ≤ 9223372036854775807) : KeyOK En.P 142 (.agg [.int .i64 a, .int .i64 b]) := by
 refine ⟨.agg #[.int .i64 a, .int .i64 b], .string (keyBytes [.int .i64 a, .int .i64 b]), rfl, ?_⟩
 have hu : En.P.underlying 142 = some (.array 2 3) := by kernel_rfl
 have hc : En.P.cellsOf 142 = 2 := by kernel_rfl
 have hc3 : En.P.cellsOf 3 = 1 := by kernel_rfl
 have hk : En.P.keyType 142 = true := by kernel_rfl
 obtain ⟨m, hm⟩ : ∃ m, En.P.types.size = m + 1 := ⟨En.P.types.size - 1, by kernel_rfl⟩
 have hfm : (Value.agg #[.int .i64 a, .int .i64 b]).formed En.P 142 = true := by simp [Value.formed, hu, hc]
 have hl : En.P.keyLits (m + 1 + 1) 142 [.int .i64 a, .int .i64 b] = some [.int .i64 a, .int .i64 b] := by
  unfold Program.keyLits
  rw [hu]
  simp only [List.length_cons, List.length_nil, hc, if_true]
  rw [show List.range 2 = [0, 1] from rfl]
  simp only [List.mapM_cons, List.mapM_nil, hc3, Nat.zero_mul, Nat.one_mul, List.drop_zero, List.drop_succ_cons, List.take_succ_cons, List.take_zero]
  rw [lit3 ha, lit3 hb]
  rfl
 unfold keyOf
 rw [hu]
 simp only [hk, hfm, Bool.and_self, if_true, hm, Value.cells]
 rw [hl]
 rfl
noncomputable def nec (cs : List Ct) : Nat → List Ct
 | 0 => []
 | j + 1 => if (cs.getD j Ct0).E then nec cs j else nec cs j ++ [cs.getD j Ct0]
noncomputable def prc (L : List Rep) : Nat → List Ct
 | 0 => []
 | i + 1 => prc L i ++ nec (L.getD i Rep0).cs (L.getD i Rep0).cs.length
def cfl (K : List Ct) : Prop := ∃ c ∈ K, ∃ d ∈ K, c.vw = d.vw ∧ c.sq = d.sq ∧ c.bd ≠ d.bd
theorem nec_y {cs : List Ct} {j : Nat} (h : (cs.getD j Ct0).E) : nec cs (j + 1) = nec cs j := if_pos h
theorem nec_n {cs : List Ct} {j : Nat} (h : ¬ (cs.getD j Ct0).E) : nec cs (j + 1) = nec cs j ++ [cs.getD j Ct0] := if_neg h
theorem J2 {cs : List Ct} : ∀ (j : Nat) (c : Ct), c ∈ nec cs j ↔ ∃ i, i < j ∧ ¬ (cs.getD i Ct0).E ∧ c = cs.getD i Ct0
 | 0, c => by
  constructor
  ·intro h; cases h
  ·rintro ⟨i, hi, _⟩; exact absurd hi (Nat.not_lt_zero i)
 | j + 1, c => by
  by_cases h : (cs.getD j Ct0).E
  ·rw [nec_y h, J2 j c]
   constructor
   ·rintro ⟨i, h1, h2, h3⟩; exact ⟨i, by omega, h2, h3⟩
   ·rintro ⟨i, h1, h2, h3⟩
    rcases Nat.lt_or_ge i j with q | q
    ·exact ⟨i, q, h2, h3⟩
    ·rw [show i = j by omega] at h2; exact absurd h h2
  ·rw [nec_n h, List.mem_append, J2 j c, List.mem_singleton]
   constructor
   ·rintro (⟨i, h1, h2, h3⟩ | rfl)
    ·exact ⟨i, by omega, h2, h3⟩
    ·exact ⟨j, by omega, h, rfl⟩
   ·rintro ⟨i, h1, h2, h3⟩
    rcases Nat.lt_or_ge i j with q | q
    ·exact .inl ⟨i, q, h2, h3⟩
    ·rw [show i = j by omega] at h3; exact .inr h3
theorem L3 {L : List Rep} : ∀ (i : Nat) (c : Ct), c ∈ prc L i ↔ ∃ k, k < i ∧ c ∈ nec (L.getD k Rep0).cs (L.getD k Rep0).cs.length
 | 0, c => by
  constructor
  ·intro h; cases h
  ·rintro ⟨i, hi, _⟩; exact absurd hi (Nat.not_lt_zero i)
 | i + 1, c => by
  show c ∈ prc L i ++ _ ↔ _
  rw [List.mem_append, L3 i c]
  constructor
  ·rintro (⟨k, h1, h2⟩ | h)
   ·exact ⟨k, by omega, h2⟩
   ·exact ⟨i, by omega, h⟩
  ·rintro ⟨k, h1, h2⟩
   rcases Nat.lt_or_ge k i with q | q
   ·exact .inl ⟨k, q, h2⟩
   ·rw [show k = i by omega] at h2; exact .inr h2
structure Mn where
 v : Int
 s : Int
 b : ByteArray
def Mn.k (e : Mn) : V := .agg [.int .i64 e.v, .int .i64 e.s]
def Mn.row (e : Mn) : List V := [e.k, .str e.b]
def Ct.mn (c : Ct) : Mn := ⟨c.vw, c.sq, c.bd⟩
def Mn.rg (e : Mn) : Prop := (0 ≤ e.v ∧ e.v ≤ 20) ∧ (1 ≤ e.s ∧ e.s ≤ 8)
structure MnI (M : List Mn) (K : List Ct) : Prop where
 rg : ∀ e ∈ M, e.rg
 to : ∀ c ∈ K, c.mn ∈ M
 of : ∀ e ∈ M, ∃ c ∈ K, c.mn = e
 un : ∀ e ∈ M, ∀ d ∈ M, e.v = d.v → e.s = d.s → e = d
 nd : M.Nodup
theorem Mn.inj {e d : Mn} (h : e.k = d.k) : e.v = d.v ∧ e.s = d.s := by
 unfold Mn.k at h
 simp only [V.agg.injEq, List.cons.injEq, V.int.injEq, true_and, and_true] at h
 exact h
theorem MnI.keys {M : List Mn} {K : List Ct} (h : MnI M K) : KeysOK En.P 142 (M.map Mn.row) := by
 intro i row hr
 rw [List.getElem?_map] at hr
 cases e : M[i]? with
 | none => rw [e] at hr; cases hr
 | some x =>
  rw [e] at hr
  obtain rfl := Option.some.inj hr
  obtain ⟨⟨a, b⟩, c, d⟩ := h.rg x (List.mem_of_getElem? e)
  exact ⟨_, _, rfl, key2 _ _ (by omega) (by omega)⟩
theorem MnI.nil : MnI [] [] := ⟨fun _ h => (by cases h), fun _ h => (by cases h), fun _ h => (by cases h), fun _ h => (by cases h), List.nodup_nil⟩
theorem MnI.miss {M : List Mn} {K : List Ct} (h : MnI M K) {c : Ct} (hc : c.mn.rg) (hn : ∀ e ∈ M, ¬ (e.v = c.vw ∧ e.s = c.sq)) : MnI (M ++ [c.mn]) (K ++ [c]) := by
 refine ⟨fun e he => ?_, fun d hd => ?_, fun e he => ?_, fun e he d hd h1 h2 => ?_, ?_⟩
 ·rcases List.mem_append.1 he with q | q
  ·exact h.rg e q
  ·rw [List.mem_singleton.1 q]; exact hc
 ·rcases List.mem_append.1 hd with q | q
  ·exact List.mem_append_left _ (h.to d q)
  ·rw [List.mem_singleton.1 q]; exact List.mem_append_right _ (List.mem_singleton.2 rfl)
 ·rcases List.mem_append.1 he with q | q
  ·obtain ⟨d, h1, h2⟩ := h.of e q; exact ⟨d, List.mem_append_left _ h1, h2⟩
  ·exact ⟨c, List.mem_append_right _ (List.mem_singleton.2 rfl), (List.mem_singleton.1 q).symm⟩
 ·rcases List.mem_append.1 he with q | q <;> rcases List.mem_append.1 hd with r | r
  ·exact h.un e q d r h1 h2
  ·rw [List.mem_singleton.1 r] at h1 h2; exact absurd ⟨h1, h2⟩ (hn e q)
  ·rw [List.mem_singleton.1 q] at h1 h2; exact absurd ⟨h1.symm, h2.symm⟩ (hn d r)
  ·rw [List.mem_singleton.1 q, List.mem_singleton.1 r]
 ·refine List.nodup_append.2 ⟨h.nd, by simp, fun a ha b hb e => ?_⟩
  rw [List.mem_singleton.1 hb] at e
  exact hn a ha (by rw [e]; exact ⟨rfl, rfl⟩)
theorem MnI.hit {M : List Mn} {K : List Ct} (h : MnI M K) {c : Ct} (hm : c.mn ∈ M) : MnI M (K ++ [c]) := by
 refine ⟨h.rg, fun d hd => ?_, fun e he => ?_, h.un, h.nd⟩
 ·rcases List.mem_append.1 hd with q | q
  ·exact h.to d q
  ·rw [List.mem_singleton.1 q]; exact hm
 ·obtain ⟨d, h1, h2⟩ := h.of e he; exact ⟨d, List.mem_append_left _ h1, h2⟩
theorem MnI.no {M : List Mn} {K : List Ct} (h : MnI M K) : ¬ cfl K := by
 rintro ⟨c, hc, d, hd, h1, h2, h3⟩
 have := h.un _ (h.to c hc) _ (h.to d hd) h1 h2
 exact h3 (congrArg Mn.b this)
theorem MnI.yes {M : List Mn} {K : List Ct} (h : MnI M K) {c : Ct} {e : Mn} (he : e ∈ M) (h1 : e.v = c.vw) (h2 : e.s = c.sq) (h3 : e.b ≠ c.bd) : cfl (K ++ [c]) := by
 obtain ⟨d, hd, rfl⟩ := h.of e he
 exact ⟨d, List.mem_append_left _ hd, c, List.mem_append_right _ (List.mem_singleton.2 rfl), h1, h2, h3⟩
theorem cfl_mono {K K' : List Ct} (h : cfl K) (hs : ∀ c ∈ K, c ∈ K') : cfl K' := by
 obtain ⟨c, hc, d, hd, q⟩ := h
 exact ⟨c, hs c hc, d, hs d hd, q⟩
end Go.Proofs.YteifdelnahccjaaGreatDoor
