import Derived.Test.YteifdelnahccjaaGreatDoorL10
namespace Go.Proofs.YteifdelnahccjaaGreatDoor
open Go.V
set_option linter.unusedVariables false
set_option linter.unusedSimpArgs false
set_option maxRecDepth 20000
set_option maxHeartbeats 4000000
def fyOK (n : Int) (F : List Int) : Prop := (F.length : Int) ≤ (n - 1) / 3 ∧ ∀ i, i < F.length → (0 ≤ F.getD i 0 ∧ F.getD i 0 ≤ n - 1) ∧ (0 < i → F.getD (i - 1) 0 < F.getD i 0)
def rsOK (n : Int) (L : List Rep) (i : Nat) : Prop := (L.getD i Rep0).id = (i : Int) ∧ (L.getD i Rep0).nd = n ∧ (L.getD i Rep0).OK
def pcOK (n : Int) (p : Pc) : Prop := (0 ≤ p.to ∧ p.to ≤ n - 1) ∧ sgd mk bare n p.ms
def sgM (n : Int) (m : Msg) : Prop := sgd mk bare n m
def Grp.hd (g : Grp) : Prop := nodes g.nd ∧ fyOK g.nd g.fa ∧ (g.rs.length : Int) = g.nd ∧ g.wi.length ≤ 400 ∧ g.se.length ≤ 4096
def Grp.OK (g : Grp) : Prop := g.hd ∧ (∀ i, i < g.rs.length → rsOK g.nd g.rs i) ∧ (∀ i, i < g.wi.length → pcOK g.nd (g.wi.getD i Pc0)) ∧ (∀ i, i < g.se.length → sgM g.nd (g.se.getD i Msg0))
def riOK (lo hi : Int) (F : List Int) (i : Nat) : Prop := (lo ≤ F.getD i 0 ∧ F.getD i 0 ≤ hi) ∧ (0 < i → F.getD (i - 1) 0 < F.getD i 0)
noncomputable instance dcRi (lo hi : Int) (F : List Int) : Decidable (∀ i, i < F.length → riOK lo hi F i) := Classical.propDecidable _
noncomputable instance dcFy (n : Int) (F : List Int) : Decidable (nodes n ∧ fyOK n F) := Classical.propDecidable _
noncomputable instance dcFz (n : Int) (F : List Int) : Decidable (fyOK n F) := Classical.propDecidable _
noncomputable instance dcGrp (g : Grp) : Decidable g.OK := Classical.propDecidable _
def anyP {α : Type} (P : α → Prop) (L : List α) : Prop := ∃ x ∈ L, P x
noncomputable instance dcAny {α : Type} (P : α → Prop) (L : List α) : Decidable (anyP P L) := Classical.propDecidable _
def nS (n : Int) (m : Msg) : Prop := ¬ (nodes n ∧ sgd mk bare n m)
noncomputable instance dcNs (n : Int) (m : Msg) : Decidable (nS n m) := Classical.propDecidable _
theorem s139 (n : Int) : Pure En 139 [.one (.int .i64 n)] [.one (.int .i64 (if nodes n then (n - 1) / 3 else 0)), .one (.int .i64 (if nodes n then 0 else 4))] := by
 by_cases hn : nodes n
 ·rw [if_pos hn, if_pos hn]
  rcases hn with rfl | rfl | rfl
  all_goals
   refine Pure.of_ev (st := []) Tryz.func139 rfl kb ?_
   refine br ?_ ?_ <;> intro h1_1
   ·refine br ?_ ?_ <;> intro h1_4
    ·refine br ?_ ?_ <;> intro h1_8
     ·first | exact B6 rfl rfl | (exfalso; omega)
     ·refine sd ⟨by (first | omega | decide | (rcases hn with e | e | e <;> omega)), by (first | omega | decide | (rcases hn with e | e | e <;> omega))⟩ ?_
      refine sd (by (first | omega | decide | (rcases hn with e | e | e <;> omega))) ?_
      first | exact B6 rfl rfl | (exfalso; omega)
    ·refine sd ⟨by (first | omega | decide | (rcases hn with e | e | e <;> omega)), by (first | omega | decide | (rcases hn with e | e | e <;> omega))⟩ ?_
     refine sd (by (first | omega | decide | (rcases hn with e | e | e <;> omega))) ?_
     first | exact B6 rfl rfl | (exfalso; omega)
   ·refine sd ⟨by (first | omega | decide | (rcases hn with e | e | e <;> omega)), by (first | omega | decide | (rcases hn with e | e | e <;> omega))⟩ ?_
    refine sd (by (first | omega | decide | (rcases hn with e | e | e <;> omega))) ?_
    first | exact B6 rfl rfl | (exfalso; omega)
 ·rw [if_neg hn, if_neg hn]
  unfold nodes at hn
  refine Pure.of_ev (st := []) Tryz.func139 rfl kb ?_
  refine br ?_ ?_ <;> intro h1_1
  ·refine br ?_ ?_ <;> intro h1_4
   ·refine br ?_ ?_ <;> intro h1_8
    ·first | exact B6 rfl rfl | (exfalso; omega)
    ·refine A9 ?_
     refine A9 ?_
     first | exact B6 rfl rfl | (exfalso; omega)
   ·refine A9 ?_
    refine A9 ?_
    first | exact B6 rfl rfl | (exfalso; omega)
  ·refine A9 ?_
   refine A9 ?_
   first | exact B6 rfl rfl | (exfalso; omega)
theorem s169 (lo hi : Int) (F : List Int) (b : Bool) (hF : F.length ≤ 1048576) : Pure En 169 [.one (.sl b (F.map iT)), .one (.int .i64 lo), .one (.int .i64 hi)] [.one (.bool (decide (∀ i, i < F.length → riOK lo hi F i)))] := by
 have hl : (F.map iT).length = F.length := List.length_map ..
 refine Pure.of_ev (st := []) Tryz.func169 rfl kb ?_
 refine C3 (fun (i : Nat) => [.sl false b (F.map iT), .int .i64 lo, .int .i64 hi, .unk, .unk, .unk, .unk, .unk, .unk, .sl false b (F.map iT), .int .i64 ((F.map iT).length : Int), .int .i64 i]) (fun (i : Nat) => i ≤ F.length ∧ ∀ j, j < i → riOK lo hi F j) (fun (i : Nat) => F.length - i) 0 ?_ ?_ ?_
 ·exact ⟨Nat.zero_le _, D8⟩
 ·(repeat first | exact LE.nil _ | refine LE.unk _ _ ?_ | refine LE.eq _ _ _ rfl ?_)
 intro i hI ih
 obtain ⟨u0, u2⟩ := hI
 refine A6 (st := []) ?_
 refine br ?_ ?_ <;> intro h2_0
 ·(refine A9 (C4 (by first | rfl | assumption | exact Q17) rfl ?_))
  refine B3 (V2 _ _ _) rfl j2 ?_ ?_ <;> intro h4_3
  ·refine br ?_ ?_ <;> intro h4_7
   ·refine A9 ?_
    (refine A9 (C4 (by first | rfl | assumption | exact Q17) rfl ?_))
    refine br ?_ ?_ <;> intro h4_15
    ·refine B0 rfl ?_; intro q; obtain ⟨e1, e2⟩ := q i (by omega); first | exact h4_3 e1 | (have := e2 (by omega); omega)
    ·refine A9 ?_
     exact P2 (ih (i + 1) ⟨by omega, D0 u2 ⟨h4_3, fun _ => by omega⟩⟩ (by omega)) (by (repeat first | exact LE.nil _ | refine LE.unk _ _ ?_ | refine LE.eq _ _ _ rfl ?_))
   ·refine A9 ?_
    exact P2 (ih (i + 1) ⟨by omega, D0 u2 ⟨h4_3, fun _ => by omega⟩⟩ (by omega)) (by (repeat first | exact LE.nil _ | refine LE.unk _ _ ?_ | refine LE.eq _ _ _ rfl ?_))
  ·refine B0 rfl ?_; intro q; obtain ⟨e1, e2⟩ := q i (by omega); first | exact h4_3 e1 | (have := e2 (by omega); omega)
 ·refine B8 rfl ?_; exact fun j hj => u2 j (by omega)
theorem s97 (n : Int) (F : List Int) (b : Bool) (hF : F.length ≤ 1048576) : Pure En 97 [.one (.int .i64 n), .one (.sl b (F.map iT))] [.one (.bool (decide (nodes n ∧ fyOK n F)))] := by
 have hl : (F.map iT).length = F.length := List.length_map ..
 by_cases hn2 : nodes n
 ·have s139 : ∀ _ : Int, Pure En 139 [.one (.int .i64 n)] [.one (.int .i64 ((n - 1) / 3)), .one (.int .i64 0)] := fun _ => by have := s139 n; rwa [if_pos hn2, if_pos hn2] at this
  refine Pure.of_ev (st := []) Tryz.func97 rfl kb ?_
  refine C1 (s139 n) rfl rfl rfl ?_
  refine br ?_ (fun h => absurd (rfl) h)
  intro h2_1
  refine br ?_ ?_ <;> intro h2_6
  ·refine sd ⟨by (first | omega | assumption | (rcases hn2 with e | e | e <;> omega)), by (first | omega | assumption | (rcases hn2 with e | e | e <;> omega))⟩ ?_
   refine B3 (s169 0 (n - 1) F b hF) rfl j2 ?_ ?_ <;> intro h2_12
   ·first | (refine B8 rfl ?_; exact ⟨hn2, by omega, h2_12⟩) | (refine B0 rfl ?_; rintro ⟨q1, q2, q3⟩; first | exact h2_12 q3 | omega)
   ·first | (refine B8 rfl ?_; exact ⟨hn2, by omega, h2_12⟩) | (refine B0 rfl ?_; rintro ⟨q1, q2, q3⟩; first | exact h2_12 q3 | omega)
  ·first | (refine B8 rfl ?_; exact ⟨hn2, by omega, h2_12⟩) | (refine B0 rfl ?_; rintro ⟨q1, q2, q3⟩; first | exact h2_12 q3 | omega)
 ·have s139 : ∀ _ : Int, Pure En 139 [.one (.int .i64 n)] [.one (.int .i64 0), .one (.int .i64 4)] := fun _ => by have := s139 n; rwa [if_neg hn2, if_neg hn2] at this
  refine Pure.of_ev (st := []) Tryz.func97 rfl kb ?_
  refine C1 (s139 n) rfl rfl rfl ?_
  refine br (fun h => absurd h ((by decide))) ?_
  intro h2_1
  refine B0 rfl ?_; exact fun q => hn2 q.1
theorem o99 (G : Grp) (m : Msg) {id : Nat} {h : Heap} {n : Nat} (hid : id < n) (hh : h id = some ⟨[[.int .i64 G.nd, .sl false false (G.fa.map iT), .sl false false (G.rs.map Rep.T), .sl false false (G.wi.map Pc.T), .sl false false (G.se.map Msg.T)]], 5, 67⟩) : V.Open En 99 [.agg m.V, .ptr id 0 0] h n (.bool (decide (nS G.nd m))) [] (n + 1) := by
 refine V.Open.of_ev (st := []) Tryz.func99 rfl kb ?_
 refine A2 ?_ (by exact Q0) (by exact Q2)
 (apply C7 (vs := [.int _ _, .int _ _, .int _ _, .int _ _, .str _, .str _, .str _]) j2; exact Q0; exact Q2; rfl; exact kb; rfl)
 refine B3 (s55 G.nd m) rfl j2 ?_ ?_ <;> intro h1_3
 ·first
  | (rw [decide_eq_false (show ¬ nS G.nd m from fun q => q h1_3)]; exact fiO rfl rfl (leWr (fun j hj => absurd hj List.not_mem_nil) (fun j hj hn => by simp (disch := omega) only [↓app0, ↓appC, ↓updS, ↓updN])) (Nat.le_refl _))
  | (rw [decide_eq_true (show nS G.nd m from h1_3)]; exact fiO rfl rfl (leWr (fun j hj => absurd hj List.not_mem_nil) (fun j hj hn => by simp (disch := omega) only [↓app0, ↓appC, ↓updS, ↓updN])) (Nat.le_refl _))
 ·first
  | (rw [decide_eq_false (show ¬ nS G.nd m from fun q => q h1_3)]; exact fiO rfl rfl (leWr (fun j hj => absurd hj List.not_mem_nil) (fun j hj hn => by simp (disch := omega) only [↓app0, ↓appC, ↓updS, ↓updN])) (Nat.le_refl _))
  | (rw [decide_eq_true (show nS G.nd m from h1_3)]; exact fiO rfl rfl (leWr (fun j hj => absurd hj List.not_mem_nil) (fun j hj hn => by simp (disch := omega) only [↓app0, ↓appC, ↓updS, ↓updN])) (Nat.le_refl _))
theorem o170g (fr b : Bool) (L : List Msg) (G : Grp) {id : Nat} {h : Heap} {n : Nat} (hid : id < n) (hh : h id = some ⟨[[.int .i64 G.nd, .sl false false (G.fa.map iT), .sl false false (G.rs.map Rep.T), .sl false false (G.wi.map Pc.T), .sl false false (G.se.map Msg.T)]], 5, 67⟩) (hL : L.length ≤ 1048576) : V.Open En 170 [.sl fr b (L.map Msg.T), .clo 99 [.ptr id 0 0]] h n (.int .i64 (pix (nS G.nd) L 0)) [] (n + 1 * L.length) := by
 have hl : (L.map Msg.T).length = L.length := List.length_map ..
 refine V.Open.of_ev (st := []) Tryz.func170 rfl kb ?_
 refine B2 (fun (a : Nat × Nat) => [.sl fr b (L.map Msg.T), .clo 99 [.ptr id 0 0], .unk, .unk, .unk, .unk, .unk, .int .i64 (L.map Msg.T).length, .int .i64 a.1]) (fun (a : Nat × Nat) => h) (fun (a : Nat × Nat) => a.2) (fun (a : Nat × Nat) => a.1 ≤ L.length ∧ pix (nS G.nd) (L.drop a.1) a.1 = pix (nS G.nd) L 0 ∧ n + 1 * a.1 = a.2) (fun (a : Nat × Nat) => L.length - a.1) (0, n) ?_ ?_ ?_ ?_ ?_
 ·exact ⟨Nat.zero_le _, rfl, by omega⟩
 ·(repeat first | exact LE.nil _ | refine LE.unk _ _ ?_ | refine LE.eq _ _ _ rfl ?_)
 ·exact LessH.refl _
 ·exact Nat.le_refl _
 intro ⟨i, m⟩ hI ih
 obtain ⟨q0, q1, q2⟩ := hI
 dsimp only at q0 q1 q2 ⊢
 refine A6 (st := []) ?_
 refine br ?_ ?_ <;> intro h2_0
 ·(refine A9 (C4 (by first | rfl | assumption | (exact A7 Msg.T Msg0 (k := i) (by omega))) rfl ?_))
  refine J9 (o99 G (L.getD i Msg0) (n := m) (by omega) hh) rfl j2 ?_ ?_
  all_goals intro h4_5
  ·rw [← q1, pix_y (d := Msg0) (L := L) (i := i) (by omega) (of_decide_eq_true h4_5)]; exact fiO rfl rfl (fun _ _ _ e => e) (by omega)
  ·refine A9 ?_
   have e1 := (pix_n (P := nS G.nd) (d := Msg0) (L := L) (i := i) (by omega) (of_decide_eq_false h4_5)).symm.trans q1
   exact C6 (ih (i + 1, m + 1) ⟨by dsimp only; omega, e1, by dsimp only; omega⟩ (by dsimp only; omega)) (by (repeat first | exact LE.nil _ | refine LE.unk _ _ ?_ | refine LE.eq _ _ _ rfl ?_)) (LessH.refl _) (Nat.le_refl _)
 ·rw [← q1, U9 (L := L) (i := i) (by omega)]; exact fiO rfl rfl (fun _ _ _ e => e) (by omega)
theorem o98g (fr b : Bool) (L : List Msg) (G : Grp) {id : Nat} {h : Heap} {n : Nat} (hid : id < n) (hh : h id = some ⟨[[.int .i64 G.nd, .sl false false (G.fa.map iT), .sl false false (G.rs.map Rep.T), .sl false false (G.wi.map Pc.T), .sl false false (G.se.map Msg.T)]], 5, 67⟩) (hL : L.length ≤ 1048576) : V.Open En 98 [.sl fr b (L.map Msg.T), .clo 99 [.ptr id 0 0]] h n (.bool (decide (anyP (nS G.nd) L))) [] (n + 1 * L.length) := by
 refine V.Open.of_ev (st := []) Tryz.func98 rfl kb ?_
 refine K4 (o170g fr b L G hid hh hL) rfl rfl rfl ?_
 refine br ?_ ?_ <;> intro h1_3
 ·first
  | (rw [decide_eq_true (show anyP (nS G.nd) L from (D6 (P := nS G.nd) L 0).1 (by omega))]; exact fiO rfl rfl (fun _ _ _ e => e) (Nat.le_refl _))
  | (rw [decide_eq_false (show ¬ anyP (nS G.nd) L from fun q => by have := (D6 (P := nS G.nd) L 0).2 q; omega)]; exact fiO rfl rfl (fun _ _ _ e => e) (Nat.le_refl _))
 ·first
  | (rw [decide_eq_true (show anyP (nS G.nd) L from (D6 (P := nS G.nd) L 0).1 (by omega))]; exact fiO rfl rfl (fun _ _ _ e => e) (Nat.le_refl _))
  | (rw [decide_eq_false (show ¬ anyP (nS G.nd) L from fun q => by have := (D6 (P := nS G.nd) L 0).2 q; omega)]; exact fiO rfl rfl (fun _ _ _ e => e) (Nat.le_refl _))
theorem Grp.sm {G : Grp} (h : TBs 1048576 G.T) : G.fa.length ≤ 1048576 ∧ G.rs.length ≤ 1048576 ∧ (∀ i, i < G.rs.length → TBs 1048576 (G.rs.getD i Rep0).T) ∧ G.wi.length ≤ 1048576 ∧ G.se.length ≤ 1048576 := by
 obtain ⟨h1, h2, h3, h4⟩ := Grp.tb.1 h
 obtain ⟨a1, a2⟩ := (B7 Rep.T Rep0).1 h2
 exact ⟨((B7 iT 0).1 h1).1, a1, a2, ((B7 Pc.T Pc0).1 h3).1, ((B7 Msg.T Msg0).1 h4).1⟩
theorem s34 (G : Grp) (hb : TBs 1048576 G.T) : Pure En 34 [.agg G.T] [.one (.bool (decide G.OK))] := by
 obtain ⟨hF, hR0, hR, hW, hS⟩ := Grp.sm hb
 have hl1 : (G.fa.map iT).length = G.fa.length := List.length_map ..
 have hl2 : (G.rs.map Rep.T).length = G.rs.length := List.length_map ..
 have hl3 : (G.wi.map Pc.T).length = G.wi.length := List.length_map ..
 have hl4 : (G.se.map Msg.T).length = G.se.length := List.length_map ..
 refine Pure.of_ev (st := []) Tryz.func34 rfl kb ?_
 refine A2 ?_ (by exact Q0) (by exact Q2)
 refine A2 ?_ (by exact Q0) (by exact Q2)
 refine B3 (s97 G.nd G.fa false hF) rfl j2 ?_ ?_ <;> intro h1_4
 ·refine A2 ?_ (by exact Q0) (by exact Q2)
  refine A2 ?_ (by exact Q0) (by exact Q2)
  refine br ?_ ?_ <;> intro h1_12
  ·refine B0 rfl ?_; rintro ⟨⟨q1, q2, q3, q4, q5⟩, _⟩; first | exact h1_4 ⟨q1, q2⟩ | omega
  ·refine A2 ?_ (by exact Q0) (by exact Q2)
   refine br ?_ ?_ <;> intro h1_18
   ·refine B0 rfl ?_; rintro ⟨⟨q1, q2, q3, q4, q5⟩, _⟩; first | exact h1_4 ⟨q1, q2⟩ | omega
   ·refine A2 ?_ (by exact Q0) (by exact Q2)
    refine br ?_ ?_ <;> intro h1_24
    ·refine B0 rfl ?_; rintro ⟨⟨q1, q2, q3, q4, q5⟩, _⟩; first | exact h1_4 ⟨q1, q2⟩ | omega
    ·refine A2 ?_ (by exact Q0) (by exact Q2)
     refine B2 (fun (a : Nat × Nat) => [.unk, .ptr 0 0 0, .unk, .unk, .unk, .unk, .unk, .unk, .unk, .unk, .unk, .unk, .unk, .unk, .unk, .unk, .unk, .unk, .unk, .unk, .unk, .unk, .unk, .unk, .unk, .unk, .unk, .unk, .unk, .unk, .unk, .unk, .unk, .unk, .sl false false (G.rs.map Rep.T), .int .i64 ((G.rs.map Rep.T).length : Int), .int .i64 a.1]) (fun (a : Nat × Nat) => hp [(0, ⟨[[.int .i64 G.nd, .sl false false (G.fa.map iT), .sl false false (G.rs.map Rep.T), .sl false false (G.wi.map Pc.T), .sl false false (G.se.map Msg.T)]], 5, 67⟩)]) (fun (a : Nat × Nat) => a.2) (fun (a : Nat × Nat) => a.1 ≤ G.rs.length ∧ 1 ≤ a.2 ∧ ∀ j, j < a.1 → rsOK G.nd G.rs j) (fun (a : Nat × Nat) => G.rs.length - a.1) (0, 1) ?_ ?_ ?_ ?_ ?_
     ·exact ⟨Nat.zero_le _, Nat.le_refl _, D8⟩
     ·(repeat first | exact LE.nil _ | refine LE.unk _ _ ?_ | refine LE.eq _ _ _ rfl ?_)
     ·(repeat first | exact A4 | (refine A5 ?_ ?_; exact E3))
     ·exact Nat.le_refl _
     intro ⟨i, m⟩ hI ih
     obtain ⟨u0, u1, u2⟩ := hI
     dsimp only at u0 u1 u2 ⊢
     refine A6 (st := []) ?_
     refine br ?_ ?_ <;> intro h4_0
     ·(refine A9 (C4 (by first | rfl | assumption | (first | exact A7 Rep.T Rep0 (k := i) (by omega) | exact A7 Pc.T Pc0 (k := i2) (by omega))) rfl ?_))
      (apply est (u := .agg [.int _ _, .int _ _, .int _ _, .bool _, _, _, _, _]) j3; exact Q0; exact Q2; exact j4; exact kb; rfl)
      refine A2 ?_ (by exact Q0) (by exact Q2)
      refine br ?_ ?_ <;> intro h6_3
      ·refine B0 rfl ?_; rintro ⟨_, q2, _⟩; obtain ⟨e1, e2, e3⟩ := q2 i (by omega); first | omega | exact h6_13 e3
      ·refine A2 ?_ (by exact Q0) (by exact Q2)
       refine A2 ?_ (by exact Q0) (by exact Q2)
       refine br ?_ ?_ <;> intro h6_9
       ·refine B0 rfl ?_; rintro ⟨_, q2, _⟩; obtain ⟨e1, e2, e3⟩ := q2 i (by omega); first | omega | exact h6_13 e3
       ·(apply C7 (vs := [.int _ _, .int _ _, .int _ _, .bool _, _, _, _, _]) j2; exact Q0; exact Q2; rfl; exact kb; rfl)
        refine B3 (s29 (G.rs.getD i Rep0) (hR i (by omega))) rfl j2 ?_ ?_ <;> intro h6_13
        ·refine sd ⟨by (first | omega | (rcases h1_4.1 with e | e | e <;> omega)), by (first | omega | (rcases h1_4.1 with e | e | e <;> omega))⟩ ?_
         exact C6 (ih (i + 1, m + 1) ⟨by dsimp only; omega, by dsimp only; omega, D0 u2 ⟨by omega, by omega, h6_13⟩⟩ (by dsimp only; omega)) (by (repeat first | exact LE.nil _ | refine LE.unk _ _ ?_ | refine LE.eq _ _ _ rfl ?_)) (by (repeat first | exact A4 | (refine A5 ?_ ?_; exact E3))) (Nat.le_refl _)
        ·refine B0 rfl ?_; rintro ⟨_, q2, _⟩; obtain ⟨e1, e2, e3⟩ := q2 i (by omega); first | omega | exact h6_13 e3
     ·refine A2 ?_ (by exact Q0) (by exact Q2)
      refine B2 (fun (a : Nat × Nat) => [.unk, .ptr 0 0 0, .unk, .unk, .unk, .unk, .unk, .unk, .unk, .unk, .unk, .unk, .unk, .unk, .unk, .unk, .unk, .unk, .unk, .unk, .unk, .unk, .unk, .unk, .unk, .unk, .unk, .unk, .unk, .unk, .unk, .unk, .unk, .unk, .unk, .unk, .unk, .unk, .unk, .unk, .unk, .unk, .unk, .unk, .unk, .unk, .unk, .unk, .unk, .unk, .unk, .unk, .unk, .unk, .unk, .unk, .unk, .unk, .unk, .sl false false (G.wi.map Pc.T), .int .i64 ((G.wi.map Pc.T).length : Int), .int .i64 a.1]) (fun (a : Nat × Nat) => hp [(0, ⟨[[.int .i64 G.nd, .sl false false (G.fa.map iT), .sl false false (G.rs.map Rep.T), .sl false false (G.wi.map Pc.T), .sl false false (G.se.map Msg.T)]], 5, 67⟩)]) (fun (a : Nat × Nat) => a.2) (fun (a : Nat × Nat) => a.1 ≤ G.wi.length ∧ 1 ≤ a.2 ∧ ∀ j, j < a.1 → pcOK G.nd (G.wi.getD j Pc0)) (fun (a : Nat × Nat) => G.wi.length - a.1) (0, m) ?_ ?_ ?_ ?_ ?_
      ·exact ⟨Nat.zero_le _, u1, D8⟩
      ·(repeat first | exact LE.nil _ | refine LE.unk _ _ ?_ | refine LE.eq _ _ _ rfl ?_)
      ·(repeat first | exact A4 | (refine A5 ?_ ?_; exact E3))
      ·exact Nat.le_refl _
      intro ⟨i2, m2⟩ hI ih
      obtain ⟨v0, v1, v2⟩ := hI
      dsimp only at v0 v1 v2 ⊢
      refine A6 (st := []) ?_
      refine br ?_ ?_ <;> intro h10_0
      ·(refine A9 (C4 (by first | rfl | assumption | (first | exact A7 Rep.T Rep0 (k := i) (by omega) | exact A7 Pc.T Pc0 (k := i2) (by omega))) rfl ?_))
       (apply est (u := .agg [.int _ _, .int _ _, .int _ _, .int _ _, .int _ _, .str _, .str _, .str _]) j3; exact Q0; exact Q2; exact j4; exact kb; rfl)
       refine A2 ?_ (by exact Q0) (by exact Q2)
       refine A2 ?_ (by exact Q0) (by exact Q2)
       refine sd ⟨by (first | omega | (rcases h1_4.1 with e | e | e <;> omega)), by (first | omega | (rcases h1_4.1 with e | e | e <;> omega))⟩ ?_
       refine B3 (V2 _ _ _) rfl j2 ?_ ?_ <;> intro h12_5
       ·refine A2 ?_ (by exact Q0) (by exact Q2)
        (apply C7 (vs := [.int _ _, .int _ _, .int _ _, .int _ _, .str _, .str _, .str _]) j2; exact Q0; exact Q2; rfl; exact kb; rfl)
        refine B3 (s55 G.nd (G.wi.getD i2 Pc0).ms) rfl j2 ?_ ?_ <;> intro h12_12
        ·refine sd ⟨by (first | omega | (rcases h1_4.1 with e | e | e <;> omega)), by (first | omega | (rcases h1_4.1 with e | e | e <;> omega))⟩ ?_
         exact C6 (ih (i2 + 1, m2 + 1) ⟨by dsimp only; omega, by dsimp only; omega, D0 v2 ⟨h12_5, h12_12.2⟩⟩ (by dsimp only; omega)) (by (repeat first | exact LE.nil _ | refine LE.unk _ _ ?_ | refine LE.eq _ _ _ rfl ?_)) (by (repeat first | exact A4 | (refine A5 ?_ ?_; exact E3))) (Nat.le_refl _)
        ·refine B0 rfl ?_; rintro ⟨_, _, q3, _⟩; obtain ⟨e1, e2⟩ := q3 i2 (by omega); first | exact h12_5 e1 | exact h12_12 ⟨h1_4.1, e2⟩
       ·refine B0 rfl ?_; rintro ⟨_, _, q3, _⟩; obtain ⟨e1, e2⟩ := q3 i2 (by omega); first | exact h12_5 e1 | exact h12_12 ⟨h1_4.1, e2⟩
      ·refine A2 ?_ (by exact Q0) (by exact Q2)
       refine J9 (o98g false false G.se G (id := 0) ?_ ?_ hS) rfl j2 ?_ ?_
       ·exact F1
       ·exact F1
       all_goals intro h15_3
       ·first
        | (refine B0 rfl ?_; rintro ⟨_, _, _, q4⟩; obtain ⟨x, hx, hn⟩ := of_decide_eq_true h15_3; obtain ⟨k, hk, rfl⟩ := List.getElem_of_mem hx; have := q4 k hk; rw [show G.se.getD k Msg0 = G.se[k] by simp [hk]] at this; exact hn ⟨h1_4.1, this⟩)
        | (refine B8 rfl ?_; refine ⟨⟨h1_4.1, h1_4.2, by omega, by omega, by omega⟩, fun j hj => u2 j (by omega), fun j hj => v2 j (by omega), fun j hj => ?_⟩; refine Classical.byContradiction fun q => of_decide_eq_false h15_3 ⟨G.se.getD j Msg0, ?_, fun e => q e.2⟩; rw [show G.se.getD j Msg0 = G.se[j] by simp [hj]]; exact List.getElem_mem hj)
       ·first
        | (refine B0 rfl ?_; rintro ⟨_, _, _, q4⟩; obtain ⟨x, hx, hn⟩ := of_decide_eq_true h15_3; obtain ⟨k, hk, rfl⟩ := List.getElem_of_mem hx; have := q4 k hk; rw [show G.se.getD k Msg0 = G.se[k] by simp [hk]] at this; exact hn ⟨h1_4.1, this⟩)
        | (refine B8 rfl ?_; refine ⟨⟨h1_4.1, h1_4.2, by omega, by omega, by omega⟩, fun j hj => u2 j (by omega), fun j hj => v2 j (by omega), fun j hj => ?_⟩; refine Classical.byContradiction fun q => of_decide_eq_false h15_3 ⟨G.se.getD j Msg0, ?_, fun e => q e.2⟩; rw [show G.se.getD j Msg0 = G.se[j] by simp [hj]]; exact List.getElem_mem hj)
 ·refine B0 rfl ?_; rintro ⟨⟨q1, q2, q3, q4, q5⟩, _⟩; first | exact h1_4 ⟨q1, q2⟩ | omega
open Go.V
set_option linter.unusedVariables false
set_option linter.unusedSimpArgs false
set_option maxRecDepth 20000
set_option maxHeartbeats 4000000
def isF (F : List Int) (x : Int) : Prop := ∃ y ∈ F, y = x
noncomputable instance dcIf (F : List Int) (x : Int) : Decidable (isF F x) := Classical.propDecidable _
theorem isF_get {F : List Int} {x : Int} {i : Nat} (h : i < F.length) (e : F.getD i 0 = x) : isF F x := ⟨F.getD i 0, by rw [show F.getD i 0 = F[i] by simp [h]]; exact List.getElem_mem h, e⟩
theorem isF_no {F : List Int} {x : Int} (h : ∀ j, j < F.length → F.getD j 0 ≠ x) : ¬ isF F x := by
 rintro ⟨y, hy, rfl⟩
 obtain ⟨k, hk, e⟩ := List.getElem_of_mem hy
 exact h k hk (by simp [hk, e])
noncomputable def lyL (G : Grp) : Nat → List Rep
 | 0 => []
 | i + 1 => if isF G.fa (i : Int) then lyL G i else lyL G i ++ [G.rs.getD i Rep0]
noncomputable def ly (G : Grp) : List Rep := lyL G G.rs.length
theorem W9 {G : Grp} {i : Nat} (h : isF G.fa (i : Int)) : lyL G (i + 1) = lyL G i := if_pos h
theorem X0 {G : Grp} {i : Nat} (h : ¬ isF G.fa (i : Int)) : lyL G (i + 1) = lyL G i ++ [G.rs.getD i Rep0] := if_neg h
theorem O7 (G : Grp) : ∀ i, (lyL G i).length ≤ i
 | 0 => Nat.le_refl _
 | i + 1 => by
  have := O7 G i
  by_cases h : isF G.fa (i : Int)
  ·rw [W9 h]; omega
  ·rw [X0 h, List.length_append]; simp only [List.length_cons, List.length_nil]; omega
def lgB (L : List Rep) : Nat → List ByteArray
 | 0 => []
 | i + 1 => if (L.getD i Rep0).lg.length > (lgB L i).length then (L.getD i Rep0).lg else lgB L i
noncomputable def lgS (G : Grp) : Nat → List ByteArray
 | 0 => []
 | i + 1 => if ¬ isF G.fa (i : Int) ∧ (G.rs.getD i Rep0).lg.length > (lgS G i).length then (G.rs.getD i Rep0).lg else lgS G i
theorem lgB_y {L : List Rep} {i : Nat} (h : (L.getD i Rep0).lg.length > (lgB L i).length) : lgB L (i + 1) = (L.getD i Rep0).lg := if_pos h
theorem lgB_n {L : List Rep} {i : Nat} (h : ¬ (L.getD i Rep0).lg.length > (lgB L i).length) : lgB L (i + 1) = lgB L i := if_neg h
theorem lgB_app {L : List Rep} {x : Rep} : ∀ {i : Nat}, i ≤ L.length → lgB (L ++ [x]) i = lgB L i
 | 0, _ => rfl
 | i + 1, h => by
  have e : (L ++ [x]).getD i Rep0 = L.getD i Rep0 := by simp [List.getElem?_append_left (show i < L.length by omega)]
  unfold lgB; rw [e, lgB_app (by omega)]
noncomputable def lgO (G : Grp) : List ByteArray := lgB (ly G) (ly G).length
theorem lg_eq (G : Grp) : ∀ i, lgB (lyL G i) (lyL G i).length = lgS G i
 | 0 => rfl
 | i + 1 => by
  have ih := lg_eq G i
  by_cases h : isF G.fa (i : Int)
  ·rw [W9 h, ih]; exact (if_neg (fun q => q.1 h)).symm
  ·rw [X0 h, List.length_append]
   show lgB _ ((lyL G i).length + 1) = _
   have e : (lyL G i ++ [G.rs.getD i Rep0]).getD (lyL G i).length Rep0 = G.rs.getD i Rep0 := by simp
   have e2 : lgB (lyL G i ++ [G.rs.getD i Rep0]) (lyL G i).length = lgS G i := by rw [lgB_app (Nat.le_refl _), ih]
   by_cases q : (G.rs.getD i Rep0).lg.length > (lgS G i).length
   ·rw [lgB_y (by rw [e, e2]; exact q), e]; exact (if_pos ⟨h, q⟩).symm
   ·rw [lgB_n (by rw [e, e2]; exact q), e2]; exact (if_neg (fun z => q z.2)).symm
theorem X1 (G : Grp) : lgO G = lgS G G.rs.length := lg_eq G _
def bO (l : List ByteArray) : V := if l = [] then .nsl else .sl false false (l.map tT)
theorem bO_0 {l : List ByteArray} (h : l = []) : bO l = .nsl := if_pos h
theorem bO_1 {l : List ByteArray} (h : l ≠ []) : bO l = .sl false false (l.map tT) := if_neg h
theorem N0 {α : Type} (f : α → List V) (d : α) {L : List α} {k : Nat} (h : k < L.length) : (L.map f)[0 + ((k : Int)).toNat]? = some (f (L.getD k d)) := by rw [Nat.zero_add]; simp [h]
def repV (R : Rep) : List V := [.int .i64 R.id, .int .i64 R.nd, .int .i64 R.vw, .bool R.ac, .sl false false (R.sl.map Slt.T), .sl false false (R.cs.map (Ct.T false)), .sl false false (R.lg.map tT), .sl false false (R.ch.map Msg.T)]
structure LY where
 i : Nat
 o : V
 b : Nat
 m : Nat
 g : Heap
structure LyI (G : Grp) (h : Heap) (n : Nat) (a : LY) : Prop where
 il : a.i ≤ G.rs.length
 old : ∀ j b, j < n → h j = some b → a.g j = some b
 out : LsOK repV 8 54 n (lyL G a.i) a.o a.b a.m a.g
 mm : n ≤ a.m
theorem s278 (F : List Int) (x : Int) (b : Bool) (hF : F.length ≤ 1048576) : ∃ k : Int, ((0 ≤ k → isF F x) ∧ (isF F x → 0 ≤ k)) ∧ Pure En 278 [.one (.sl b (F.map iT)), .one (.int .i64 x)] [.one (.int .i64 k)] := by
 have hl : (F.map iT).length = F.length := List.length_map ..
 refine Pure.of_evX (st := []) Tryz.func278 rfl kb ?_
 refine C3 (fun (i : Nat) => [.sl false b (F.map iT), .int .i64 x, .unk, .unk, .unk, .unk, .unk, .int .i64 ((F.map iT).length : Int), .int .i64 i]) (fun (i : Nat) => i ≤ F.length ∧ ∀ j, j < i → F.getD j 0 ≠ x) (fun (i : Nat) => F.length - i) 0 ?_ ?_ ?_
 ·exact ⟨Nat.zero_le _, D8⟩
 ·(repeat first | exact LE.nil _ | refine LE.unk _ _ ?_ | refine LE.eq _ _ _ rfl ?_)
 intro i hI ih
 obtain ⟨u0, u2⟩ := hI
 refine A6 (st := []) ?_
 refine br ?_ ?_ <;> intro h2_0
 ·(refine A9 (C4 (by first | rfl | assumption | (first | exact A7 iT 0 (k := i) (by omega))) rfl ?_))
  refine br ?_ ?_ <;> intro h4_5
  ·exact ⟨(i : Int), ⟨fun _ => isF_get (by omega) h4_5.symm, fun _ => by omega⟩, B6 rfl rfl⟩
  ·refine A9 ?_
   exact P2 (ih (i + 1) ⟨by omega, D0 u2 (fun e => h4_5 e.symm)⟩ (by omega)) (by (repeat first | exact LE.nil _ | refine LE.unk _ _ ?_ | refine LE.eq _ _ _ rfl ?_))
 ·exact ⟨-1, ⟨fun q => absurd q (by decide), fun q => absurd q (isF_no fun j hj => u2 j (by omega))⟩, B6 rfl rfl⟩
theorem s231 (F : List Int) (x : Int) (b : Bool) (hF : F.length ≤ 1048576) : Pure En 231 [.one (.sl b (F.map iT)), .one (.int .i64 x)] [.one (.bool (decide (isF F x)))] := by
 refine Pure.of_ev (st := []) Tryz.func231 rfl kb ?_
 refine H5 (s278 F x b hF) rfl j2 ?_
 rintro k h1_2
 try dsimp only at h1_2
 refine br ?_ ?_ <;> intro h1_3
 ·first | (refine B8 rfl ?_; exact h1_2.1 (by omega)) | (refine B0 rfl ?_; intro q; have := h1_2.2 q; omega)
 ·first | (refine B8 rfl ?_; exact h1_2.1 (by omega)) | (refine B0 rfl ?_; intro q; have := h1_2.2 q; omega)
theorem o172 (G : Grp) (x : Int) (hF : G.fa.length ≤ 1048576) {id : Nat} {h : Heap} {n : Nat} (hid : id < n) (hh : h id = some ⟨[[.int .i64 G.nd, .sl false false (G.fa.map iT), .sl false false (G.rs.map Rep.T), .sl false false (G.wi.map Pc.T), .sl false false (G.se.map Msg.T)]], 5, 67⟩) : V.Open En 172 [.ptr id 0 0, .int .i64 x] h n (.bool (decide (isF G.fa x))) [] n := by
 refine V.Open.of_ev (st := []) Tryz.func172 rfl kb ?_
 refine A2 ?_ (by exact Q0) (by exact Q2)
 refine B3 (s231 G.fa x false hF) rfl j2 ?_ ?_ <;> intro h1_5
 ·first
  | (rw [decide_eq_true h1_5]; exact fiO rfl rfl (leWr (fun j hj => absurd hj List.not_mem_nil) (fun j hj hn => by simp (disch := omega) only [↓app0, ↓appC, ↓updS, ↓updN])) (Nat.le_refl _))
  | (rw [decide_eq_false h1_5]; exact fiO rfl rfl (leWr (fun j hj => absurd hj List.not_mem_nil) (fun j hj hn => by simp (disch := omega) only [↓app0, ↓appC, ↓updS, ↓updN])) (Nat.le_refl _))
 ·first
  | (rw [decide_eq_true h1_5]; exact fiO rfl rfl (leWr (fun j hj => absurd hj List.not_mem_nil) (fun j hj hn => by simp (disch := omega) only [↓app0, ↓appC, ↓updS, ↓updN])) (Nat.le_refl _))
  | (rw [decide_eq_false h1_5]; exact fiO rfl rfl (leWr (fun j hj => absurd hj List.not_mem_nil) (fun j hj hn => by simp (disch := omega) only [↓app0, ↓appC, ↓updS, ↓updN])) (Nat.le_refl _))
theorem r103 (F : List Int) (x : Int) (b : Bool) (hF : F.length ≤ 1048576) : Pure En 103 [.one (.sl b (F.map iT)), .one (.int .i64 x)] [.one (.bool (decide (isF F x)))] := by
 have hl : (F.map iT).length = F.length := List.length_map ..
 refine Pure.of_ev (st := []) Tryz.func103 rfl kb ?_
 refine C3 (fun (i : Nat) => [.sl false b (F.map iT), .int .i64 x, .unk, .unk, .unk, .int .i64 i]) (fun (i : Nat) => i ≤ F.length ∧ ∀ j, j < i → F.getD j 0 ≠ x) (fun (i : Nat) => F.length - i) 0 ?_ ?_ ?_
 ·exact ⟨Nat.zero_le _, D8⟩
 ·(repeat first | exact LE.nil _ | refine LE.unk _ _ ?_ | refine LE.eq _ _ _ rfl ?_)
 intro i hI ih
 obtain ⟨u0, u2⟩ := hI
 refine A6 (st := []) ?_
 refine br ?_ ?_ <;> intro h2_3
 ·(refine A9 (C4 (by first | rfl | assumption | (first | exact A7 iT 0 (k := i) (by omega))) rfl ?_))
  refine br ?_ ?_ <;> intro h4_5
  ·exact B8 rfl (isF_get (by omega) h4_5)
  ·refine A9 ?_
   exact P2 (ih (i + 1) ⟨by omega, D0 u2 h4_5⟩ (by omega)) (by (repeat first | exact LE.nil _ | refine LE.unk _ _ ?_ | refine LE.eq _ _ _ rfl ?_))
 ·exact B0 rfl (isF_no fun j hj => u2 j (by omega))
theorem o104 (G : Grp) (hF : G.fa.length ≤ 1048576) (hR : G.rs.length ≤ 1048576) (hne : ∀ i, G.rs.length ≤ i → lyL G i ≠ []) {id : Nat} {h : Heap} {n : Nat} (hid : id < n) (hh : h id = some ⟨[[.int .i64 G.nd, .sl false false (G.fa.map iT), .sl false false (G.rs.map Rep.T), .sl false false (G.wi.map Pc.T), .sl false false (G.se.map Msg.T)]], 5, 67⟩) :
  ∃ a : Nat × Nat, (n ≤ a.1 ∧ a.1 < a.2) ∧ V.Open En 104 [.ptr id 0 0] h n (.view a.1 0 (ly G).length) [(a.1, some ⟨(ly G).map repV, 8, 54⟩)] a.2 := by
 have hl : (G.rs.map Rep.T).length = G.rs.length := List.length_map ..
 refine V.Open.of_evX (st := [7]) Tryz.func104 rfl kb ?_
 refine A2 ?_ (by exact Q8) (by exact Q2)
 refine B2 (fun (a : LY) => [.ptr id 0 0, .unk, .unk, a.o, .unk, .unk, .unk, .unk, .unk, .sl false false (G.rs.map Rep.T), .int .i64 ((G.rs.map Rep.T).length : Int), .int .i64 a.i]) (fun (a : LY) => a.g) (fun (a : LY) => a.m) (fun (a : LY) => LyI G h n a) (fun (a : LY) => G.rs.length - a.i) ⟨0, .nsl, 0, n, h⟩ ?_ ?_ ?_ ?_ ?_
 ·exact ⟨Nat.zero_le _, fun _ _ _ hb => hb, .inl ⟨rfl, rfl⟩, Nat.le_refl _⟩
 ·(repeat first | exact LE.nil _ | refine LE.unk _ _ ?_ | refine LE.eq _ _ _ rfl ?_)
 ·exact LessH.refl _
 ·exact Nat.le_refl _
 intro ⟨i, o, b, mm, g⟩ hI ih
 have q0 := hI.il
 have hg0 := hI.old id _ hid hh
 have q4 := hI.mm
 dsimp only at q0 hg0 q4 ⊢
 have hlen := O7 G i
 rcases hI.out with ⟨e0, e1⟩ | ⟨e1, hb1, hb2⟩
 all_goals dsimp only at e1
 ·skip
  subst e1
  refine A6 (st := [7]) ?_
  refine br ?_ ?_ <;> intro h3_0
  ·(refine A9 (C4 (by first | rfl | assumption | (exact A7 Rep.T Rep0 (k := i) (by omega))) rfl ?_))
   (apply est (u := .agg [.int _ _, .int _ _, .int _ _, .bool _, _, _, _, _]) j3; exact Q8; exact Q2; exact j4; exact kb; rfl)
   refine J9 (o172 G (i : Int) hF (id := id) ?_ ?_) rfl j2 ?_ ?_
   ·(first | omega | assumption | exact Q8)
   ·(first | omega | assumption | exact Q8)
   all_goals intro h5_2
   ·refine K1 fun GG hGG => ?_
    refine A9 ?_
    first | (exact C6 (ih ⟨i + 1, .nsl, b, mm + 1, GG⟩ ⟨by dsimp only; omega, fun j bb hj hb => by dsimp only; rw [hGG]; have h9 := hI.old j bb hj hb; dsimp only at h9; (simp (disch := (first | omega | assumption)) only [↓appC, ↓updN, ↓updS, ↓app0]); exact h9, by dsimp only; rw [W9 (of_decide_eq_true h5_2)]; exact .inl ⟨e0, rfl⟩, by dsimp only; omega⟩ (by dsimp only; omega)) (by (repeat first | exact LE.nil _ | refine LE.unk _ _ ?_ | refine LE.eq _ _ _ rfl ?_)) (LessH.refl _) (Nat.le_refl _)) | (exact C6 (ih ⟨i + 1, .view (mm + 1 + 1) 0 1, mm + 1 + 1, mm + 1 + 1 + 1, GG⟩ ⟨by dsimp only; omega, fun j bb hj hb => by dsimp only; rw [hGG]; have h9 := hI.old j bb hj hb; dsimp only at h9; (simp (disch := (first | omega | assumption)) only [↓appC, ↓updN, ↓updS, ↓app0]); exact h9, by dsimp only; rw [X0 (of_decide_eq_false h5_2)]; refine .inr ⟨?_, ?_, by omega, by omega⟩; (rw [List.length_append]; rw [e0]; rfl); (rw [hGG, List.map_append]; rw [e0]; exact Q8), by dsimp only; omega⟩ (by dsimp only; omega)) (by (repeat first | exact LE.nil _ | refine LE.unk _ _ ?_ | refine LE.eq _ _ _ rfl ?_)) (LessH.refl _) (Nat.le_refl _))
   ·(apply C7 (vs := [.int _ _, .int _ _, .int _ _, .bool _, _, _, _, _]) j2; exact Q8; exact Q2; rfl; exact kb; rfl)
    refine E1 (es := [[.int _ _, .int _ _, .int _ _, .bool _, _, _, _, _]]) j4 kz kb rfl rfl ?_
    (apply ean (s' := 128) (es := [[.int _ _, .int _ _, .int _ _, .bool _, _, _, _, _]]) rfl j3 kz; (first | rfl | (apply F4 rfl; exact Q8; (first | exact Nat.le_refl _ | omega); rfl)); exact Q5; exact Q3; exact Q3; exact Q3)
    refine K1 fun GG hGG => ?_
    refine A9 ?_
    first | (exact C6 (ih ⟨i + 1, .nsl, b, mm + 1, GG⟩ ⟨by dsimp only; omega, fun j bb hj hb => by dsimp only; rw [hGG]; have h9 := hI.old j bb hj hb; dsimp only at h9; (simp (disch := (first | omega | assumption)) only [↓appC, ↓updN, ↓updS, ↓app0]); exact h9, by dsimp only; rw [W9 (of_decide_eq_true h5_2)]; exact .inl ⟨e0, rfl⟩, by dsimp only; omega⟩ (by dsimp only; omega)) (by (repeat first | exact LE.nil _ | refine LE.unk _ _ ?_ | refine LE.eq _ _ _ rfl ?_)) (LessH.refl _) (Nat.le_refl _)) | (exact C6 (ih ⟨i + 1, .view (mm + 1 + 1) 0 1, mm + 1 + 1, mm + 1 + 1 + 1, GG⟩ ⟨by dsimp only; omega, fun j bb hj hb => by dsimp only; rw [hGG]; have h9 := hI.old j bb hj hb; dsimp only at h9; (simp (disch := (first | omega | assumption)) only [↓appC, ↓updN, ↓updS, ↓app0]); exact h9, by dsimp only; rw [X0 (of_decide_eq_false h5_2)]; refine .inr ⟨?_, ?_, by omega, by omega⟩; (rw [List.length_append]; rw [e0]; rfl); (rw [hGG, List.map_append]; rw [e0]; exact Q8), by dsimp only; omega⟩ (by dsimp only; omega)) (by (repeat first | exact LE.nil _ | refine LE.unk _ _ ?_ | refine LE.eq _ _ _ rfl ?_)) (LessH.refl _) (Nat.le_refl _))
  ·exact absurd e0 (hne i (by omega))
 ·skip
  dsimp only at hb1 hb2
  subst e1
  refine A6 (st := [7]) ?_
  refine br ?_ ?_ <;> intro h3_0
  ·(refine A9 (C4 (by first | rfl | assumption | (exact A7 Rep.T Rep0 (k := i) (by omega))) rfl ?_))
   (apply est (u := .agg [.int _ _, .int _ _, .int _ _, .bool _, _, _, _, _]) j3; exact Q8; exact Q2; exact j4; exact kb; rfl)
   refine J9 (o172 G (i : Int) hF (id := id) ?_ ?_) rfl j2 ?_ ?_
   ·(first | omega | assumption | exact Q8)
   ·(first | omega | assumption | exact Q8)
   all_goals intro h5_2
   ·refine K1 fun GG hGG => ?_
    refine A9 ?_
    first | (exact C6 (ih ⟨i + 1, .view b 0 (lyL G i).length, b, mm + 1, GG⟩ ⟨by dsimp only; omega, fun j bb hj hb => by dsimp only; rw [hGG]; have h9 := hI.old j bb hj hb; dsimp only at h9; (simp (disch := (first | omega | assumption)) only [↓appC, ↓updN, ↓updS, ↓app0]); exact h9, by dsimp only; rw [W9 (of_decide_eq_true h5_2)]; refine .inr ⟨rfl, ?_, by omega, by omega⟩; rw [hGG]; exact Q8, by dsimp only; omega⟩ (by dsimp only; omega)) (by (repeat first | exact LE.nil _ | refine LE.unk _ _ ?_ | refine LE.eq _ _ _ rfl ?_)) (LessH.refl _) (Nat.le_refl _)) | (exact C6 (ih ⟨i + 1, .view (mm + 1 + 1) 0 ((lyL G i).length + 1), mm + 1 + 1, mm + 1 + 1 + 1, GG⟩ ⟨by dsimp only; omega, fun j bb hj hb => by dsimp only; rw [hGG]; have h9 := hI.old j bb hj hb; dsimp only at h9; (simp (disch := (first | omega | assumption)) only [↓appC, ↓updN, ↓updS, ↓app0]); exact h9, by dsimp only; rw [X0 (of_decide_eq_false h5_2)]; refine .inr ⟨?_, ?_, by omega, by omega⟩; (rw [List.length_append]; rfl); (rw [hGG, List.map_append]; exact Q8), by dsimp only; omega⟩ (by dsimp only; omega)) (by (repeat first | exact LE.nil _ | refine LE.unk _ _ ?_ | refine LE.eq _ _ _ rfl ?_)) (LessH.refl _) (Nat.le_refl _))
   ·(apply C7 (vs := [.int _ _, .int _ _, .int _ _, .bool _, _, _, _, _]) j2; exact Q8; exact Q2; rfl; exact kb; rfl)
    refine E1 (es := [[.int _ _, .int _ _, .int _ _, .bool _, _, _, _, _]]) j4 kz kb rfl rfl ?_
    (apply eap (s' := 128) (es := [[.int _ _, .int _ _, .int _ _, .bool _, _, _, _, _]]) rfl rfl; exact Q8; exact j2; exact Q21; exact j2; exact kz; (first | rfl | (apply F4 rfl; exact Q8; (first | exact Nat.le_refl _ | omega); rfl)); exact Q5; exact Q3; exact Q3)
    refine K1 fun GG hGG => ?_
    refine A9 ?_
    first | (exact C6 (ih ⟨i + 1, .view b 0 (lyL G i).length, b, mm + 1, GG⟩ ⟨by dsimp only; omega, fun j bb hj hb => by dsimp only; rw [hGG]; have h9 := hI.old j bb hj hb; dsimp only at h9; (simp (disch := (first | omega | assumption)) only [↓appC, ↓updN, ↓updS, ↓app0]); exact h9, by dsimp only; rw [W9 (of_decide_eq_true h5_2)]; refine .inr ⟨rfl, ?_, by omega, by omega⟩; rw [hGG]; exact Q8, by dsimp only; omega⟩ (by dsimp only; omega)) (by (repeat first | exact LE.nil _ | refine LE.unk _ _ ?_ | refine LE.eq _ _ _ rfl ?_)) (LessH.refl _) (Nat.le_refl _)) | (exact C6 (ih ⟨i + 1, .view (mm + 1 + 1) 0 ((lyL G i).length + 1), mm + 1 + 1, mm + 1 + 1 + 1, GG⟩ ⟨by dsimp only; omega, fun j bb hj hb => by dsimp only; rw [hGG]; have h9 := hI.old j bb hj hb; dsimp only at h9; (simp (disch := (first | omega | assumption)) only [↓appC, ↓updN, ↓updS, ↓app0]); exact h9, by dsimp only; rw [X0 (of_decide_eq_false h5_2)]; refine .inr ⟨?_, ?_, by omega, by omega⟩; (rw [List.length_append]; rfl); (rw [hGG, List.map_append]; exact Q8), by dsimp only; omega⟩ (by dsimp only; omega)) (by (repeat first | exact LE.nil _ | refine LE.unk _ _ ?_ | refine LE.eq _ _ _ rfl ?_)) (LessH.refl _) (Nat.le_refl _))
  ·obtain rfl : i = G.rs.length := by omega
   exact ⟨(b, mm), ⟨by omega, by omega⟩, fiO rfl rfl (fun hz id2 b2 hb2 => by
    have hb2 : upd h b (some ⟨(ly G).map repV, 8, 54⟩) id2 = some b2 := hb2
    by_cases e : id2 = b
    ·subst e; rw [upd_same] at hb2; rw [← Option.some.inj hb2]; exact hb1
    ·rw [B5 _ _ e] at hb2
     refine hI.old id2 b2 ?_ hb2
     rcases Nat.lt_or_ge id2 n with h1 | h1
     ·exact h1
     ·rw [hz id2 h1] at hb2; cases hb2) (Nat.le_refl _)⟩
open Go.V
set_option linter.unusedVariables false
set_option linter.unusedSimpArgs false
set_option maxRecDepth 20000
set_option maxHeartbeats 4000000
structure LG where
 i : Nat
 o : V
 m : Nat
structure LM where
 i : Nat
 o : V
 m : Nat
 g : Heap
structure LmI (G : Grp) (h : Heap) (n b : Nat) (a : LM) : Prop where
 il : a.i ≤ (ly G).length
 ob : a.o = bO (lgB (ly G) a.i)
 old : ∀ j bb, j < n → h j = some bb → a.g j = some bb
 blk : a.g b = some ⟨(ly G).map repV, 8, 54⟩
 nm : n ≤ b ∧ b < a.m
def bS (l : List ByteArray) : V := if l = [] then .view 1 0 0 else .sl false false (l.map tT)
theorem bS_0 {l : List ByteArray} (h : l = []) : bS l = .view 1 0 0 := if_pos h
theorem bS_1 {l : List ByteArray} (h : l ≠ []) : bS l = .sl false false (l.map tT) := if_neg h
theorem T9 {G : Grp} {i : Nat} (h : ¬ isF G.fa (i : Int)) (q : (G.rs.getD i Rep0).lg.length > (lgS G i).length) : lgS G (i + 1) = (G.rs.getD i Rep0).lg := if_pos ⟨h, q⟩
theorem U0 {G : Grp} {i : Nat} (h : ¬ (¬ isF G.fa (i : Int) ∧ (G.rs.getD i Rep0).lg.length > (lgS G i).length)) : lgS G (i + 1) = lgS G i := if_neg h
theorem rowsF (L : List ByteArray) : (L.map tT).map (fun x => List.map (T.toV false) x) = L.map (vT tT) := by rw [List.map_map]; rfl
theorem gtne {L : List ByteArray} {k : Nat} (h : L.length > k) : L ≠ [] := fun e => by rw [e, List.length_nil] at h; omega
theorem o106 (G : Grp) (hF : G.fa.length ≤ 1048576) (hR : G.rs.length ≤ 1048576) (hne : ∀ i, G.rs.length ≤ i → lyL G i ≠ []) {id : Nat} {h : Heap} {n : Nat} (hid : id < n) (hh : h id = some ⟨[[.int .i64 G.nd, .sl false false (G.fa.map iT), .sl false false (G.rs.map Rep.T), .sl false false (G.wi.map Pc.T), .sl false false (G.se.map Msg.T)]], 5, 67⟩) :
  ∃ m : Nat, n ≤ m ∧ V.Open En 106 [.ptr id 0 0] h n (bO (lgO G)) [] m := by
 refine V.Open.of_evX (st := [7]) Tryz.func106 rfl kb ?_
 refine eopX (o104 G hF hR hne hid hh) rfl j2 ?_
 rintro ⟨b, m0⟩ h2_1
 try dsimp only at h2_1
 refine wlG fun g0 hg0 => ?_
 refine B2 (fun (a : LM) => [.ptr id 0 0, .unk, .unk, a.o, .unk, .unk, .unk, .view b 0 (ly G).length, .int .i64 ((ly G).length : Int), .int .i64 a.i]) (fun (a : LM) => a.g) (fun (a : LM) => a.m) (fun (a : LM) => LmI G h n b a) (fun (a : LM) => (ly G).length - a.i) ⟨0, .nsl, m0, g0⟩ ?_ ?_ ?_ ?_ ?_
 ·exact ⟨Nat.zero_le _, (bO_0 rfl).symm, fun j bb hj hb => by dsimp only; rw [hg0]; (simp (disch := (first | omega | assumption)) only [↓appC, ↓updN, ↓updS, ↓app0]); exact hb, by dsimp only; rw [hg0]; (simp (disch := (first | omega | assumption)) only [↓appC, ↓updN, ↓updS, ↓app0]), h2_1⟩
 ·(repeat first | exact LE.nil _ | refine LE.unk _ _ ?_ | refine LE.eq _ _ _ rfl ?_)
 ·exact LessH.refl _
 ·exact Nat.le_refl _
 intro ⟨i, o, m, g⟩ hI ih
 have u0 := hI.il
 have u1 := hI.ob
 have hb0 := hI.blk
 have u2 := hI.nm.2
 dsimp only at u0 u1 u2 hb0 ⊢
 have hly := O7 G G.rs.length
 have hly2 : (ly G).length ≤ G.rs.length := hly
 have hl5 : (((ly G).getD i Rep0).lg.map tT).length = ((ly G).getD i Rep0).lg.length := List.length_map ..
 have hl6 : ((lgB (ly G) i).map tT).length = (lgB (ly G) i).length := List.length_map ..
 rcases Classical.em (lgB (ly G) i = []) with hz | hz
 ·skip
  rw [bO_0 hz] at u1
  subst u1
  refine A6 (st := [7]) ?_
  refine br ?_ ?_ <;> intro h3_0
  ·(refine F6 (by exact Q8) ⟨rfl, A9 ?_⟩)
   (apply C7 (vs := [.int _ _, .int _ _, .int _ _, .bool _, _, _, _, _]) j2; exact Q8; (first | rfl | assumption | exact N0 repV Rep0 (k := i) (by omega)); rfl; exact kb; rfl)
   (apply est (u := .agg [.int _ _, .int _ _, .int _ _, .bool _, _, _, _, _]) j3; exact Q8; (first | rfl | assumption | exact N0 repV Rep0 (k := i) (by omega)); exact j4; exact kb; rfl)
   refine A2 ?_ (by exact Q8) (by (first | rfl | assumption | exact N0 repV Rep0 (k := i) (by omega)))
   refine br ?_ ?_ <;> intro h5_5
   ·refine A2 ?_ (by exact Q8) (by (first | rfl | assumption | exact N0 repV Rep0 (k := i) (by omega)))
    refine K1 fun GG hGG => ?_
    refine A9 ?_
    first | (exact C6 (ih ⟨i + 1, .sl false false (((ly G).getD i Rep0).lg.map tT), m + 1, GG⟩ ⟨by dsimp only; omega, by dsimp only; rw [lgB_y (L := ly G) (i := i) (by first | omega | (rw [hz, List.length_nil]; omega)), bO_1 (gtne (k := 0) (by omega))], fun j bb hj hb => by dsimp only; rw [hGG]; have h9 := hI.old j bb hj hb; dsimp only at h9; (simp (disch := (first | omega | assumption)) only [↓appC, ↓updN, ↓updS, ↓app0]); exact h9, by dsimp only; rw [hGG]; have h9 := hI.blk; dsimp only at h9; (simp (disch := (first | omega | assumption)) only [↓appC, ↓updN, ↓updS, ↓app0]); exact h9, ⟨h2_1.1, by dsimp only; omega⟩⟩ (by dsimp only; omega)) (by (repeat first | exact LE.nil _ | refine LE.unk _ _ ?_ | refine LE.eq _ _ _ rfl ?_)) (LessH.refl _) (Nat.le_refl _)) | (exact C6 (ih ⟨i + 1, V.nsl, m + 1, GG⟩ ⟨by dsimp only; omega, by dsimp only; rw [lgB_n (L := ly G) (i := i) (by first | omega | (rw [hz, List.length_nil]; omega))]; exact (bO_0 hz).symm, fun j bb hj hb => by dsimp only; rw [hGG]; have h9 := hI.old j bb hj hb; dsimp only at h9; (simp (disch := (first | omega | assumption)) only [↓appC, ↓updN, ↓updS, ↓app0]); exact h9, by dsimp only; rw [hGG]; have h9 := hI.blk; dsimp only at h9; (simp (disch := (first | omega | assumption)) only [↓appC, ↓updN, ↓updS, ↓app0]); exact h9, ⟨h2_1.1, by dsimp only; omega⟩⟩ (by dsimp only; omega)) (by (repeat first | exact LE.nil _ | refine LE.unk _ _ ?_ | refine LE.eq _ _ _ rfl ?_)) (LessH.refl _) (Nat.le_refl _))
   ·refine K1 fun GG hGG => ?_
    refine A9 ?_
    first | (exact C6 (ih ⟨i + 1, .sl false false (((ly G).getD i Rep0).lg.map tT), m + 1, GG⟩ ⟨by dsimp only; omega, by dsimp only; rw [lgB_y (L := ly G) (i := i) (by first | omega | (rw [hz, List.length_nil]; omega)), bO_1 (gtne (k := 0) (by omega))], fun j bb hj hb => by dsimp only; rw [hGG]; have h9 := hI.old j bb hj hb; dsimp only at h9; (simp (disch := (first | omega | assumption)) only [↓appC, ↓updN, ↓updS, ↓app0]); exact h9, by dsimp only; rw [hGG]; have h9 := hI.blk; dsimp only at h9; (simp (disch := (first | omega | assumption)) only [↓appC, ↓updN, ↓updS, ↓app0]); exact h9, ⟨h2_1.1, by dsimp only; omega⟩⟩ (by dsimp only; omega)) (by (repeat first | exact LE.nil _ | refine LE.unk _ _ ?_ | refine LE.eq _ _ _ rfl ?_)) (LessH.refl _) (Nat.le_refl _)) | (exact C6 (ih ⟨i + 1, V.nsl, m + 1, GG⟩ ⟨by dsimp only; omega, by dsimp only; rw [lgB_n (L := ly G) (i := i) (by first | omega | (rw [hz, List.length_nil]; omega))]; exact (bO_0 hz).symm, fun j bb hj hb => by dsimp only; rw [hGG]; have h9 := hI.old j bb hj hb; dsimp only at h9; (simp (disch := (first | omega | assumption)) only [↓appC, ↓updN, ↓updS, ↓app0]); exact h9, by dsimp only; rw [hGG]; have h9 := hI.blk; dsimp only at h9; (simp (disch := (first | omega | assumption)) only [↓appC, ↓updN, ↓updS, ↓app0]); exact h9, ⟨h2_1.1, by dsimp only; omega⟩⟩ (by dsimp only; omega)) (by (repeat first | exact LE.nil _ | refine LE.unk _ _ ?_ | refine LE.eq _ _ _ rfl ?_)) (LessH.refl _) (Nat.le_refl _))
  ·have hi : lgO G = lgB (ly G) i := by unfold lgO; rw [show i = (ly G).length by omega]
   exact ⟨m, by omega, fiO rfl (show V.nsl = bO (lgO G) from by rw [hi]; exact (bO_0 hz).symm) (fun hz2 id2 b2 hb2 => by
    have hb2 : h id2 = some b2 := hb2
    refine hI.old id2 b2 ?_ hb2
    rcases Nat.lt_or_ge id2 n with h1 | h1
    ·exact h1
    ·rw [hz2 id2 h1] at hb2; cases hb2) (Nat.le_refl _)⟩
 ·skip
  rw [bO_1 hz] at u1
  subst u1
  refine A6 (st := [7]) ?_
  refine br ?_ ?_ <;> intro h3_0
  ·(refine F6 (by exact Q8) ⟨rfl, A9 ?_⟩)
   (apply C7 (vs := [.int _ _, .int _ _, .int _ _, .bool _, _, _, _, _]) j2; exact Q8; (first | rfl | assumption | exact N0 repV Rep0 (k := i) (by omega)); rfl; exact kb; rfl)
   (apply est (u := .agg [.int _ _, .int _ _, .int _ _, .bool _, _, _, _, _]) j3; exact Q8; (first | rfl | assumption | exact N0 repV Rep0 (k := i) (by omega)); exact j4; exact kb; rfl)
   refine A2 ?_ (by exact Q8) (by (first | rfl | assumption | exact N0 repV Rep0 (k := i) (by omega)))
   refine br ?_ ?_ <;> intro h5_5
   ·refine A2 ?_ (by exact Q8) (by (first | rfl | assumption | exact N0 repV Rep0 (k := i) (by omega)))
    refine K1 fun GG hGG => ?_
    refine A9 ?_
    first | (exact C6 (ih ⟨i + 1, .sl false false (((ly G).getD i Rep0).lg.map tT), m + 1, GG⟩ ⟨by dsimp only; omega, by dsimp only; rw [lgB_y (L := ly G) (i := i) (by first | omega | (rw [hz, List.length_nil]; omega)), bO_1 (gtne (k := 0) (by omega))], fun j bb hj hb => by dsimp only; rw [hGG]; have h9 := hI.old j bb hj hb; dsimp only at h9; (simp (disch := (first | omega | assumption)) only [↓appC, ↓updN, ↓updS, ↓app0]); exact h9, by dsimp only; rw [hGG]; have h9 := hI.blk; dsimp only at h9; (simp (disch := (first | omega | assumption)) only [↓appC, ↓updN, ↓updS, ↓app0]); exact h9, ⟨h2_1.1, by dsimp only; omega⟩⟩ (by dsimp only; omega)) (by (repeat first | exact LE.nil _ | refine LE.unk _ _ ?_ | refine LE.eq _ _ _ rfl ?_)) (LessH.refl _) (Nat.le_refl _)) | (exact C6 (ih ⟨i + 1, V.sl false false ((lgB (ly G) i).map tT), m + 1, GG⟩ ⟨by dsimp only; omega, by dsimp only; rw [lgB_n (L := ly G) (i := i) (by first | omega | (rw [hz, List.length_nil]; omega))]; exact (bO_1 hz).symm, fun j bb hj hb => by dsimp only; rw [hGG]; have h9 := hI.old j bb hj hb; dsimp only at h9; (simp (disch := (first | omega | assumption)) only [↓appC, ↓updN, ↓updS, ↓app0]); exact h9, by dsimp only; rw [hGG]; have h9 := hI.blk; dsimp only at h9; (simp (disch := (first | omega | assumption)) only [↓appC, ↓updN, ↓updS, ↓app0]); exact h9, ⟨h2_1.1, by dsimp only; omega⟩⟩ (by dsimp only; omega)) (by (repeat first | exact LE.nil _ | refine LE.unk _ _ ?_ | refine LE.eq _ _ _ rfl ?_)) (LessH.refl _) (Nat.le_refl _))
   ·refine K1 fun GG hGG => ?_
    refine A9 ?_
    first | (exact C6 (ih ⟨i + 1, .sl false false (((ly G).getD i Rep0).lg.map tT), m + 1, GG⟩ ⟨by dsimp only; omega, by dsimp only; rw [lgB_y (L := ly G) (i := i) (by first | omega | (rw [hz, List.length_nil]; omega)), bO_1 (gtne (k := 0) (by omega))], fun j bb hj hb => by dsimp only; rw [hGG]; have h9 := hI.old j bb hj hb; dsimp only at h9; (simp (disch := (first | omega | assumption)) only [↓appC, ↓updN, ↓updS, ↓app0]); exact h9, by dsimp only; rw [hGG]; have h9 := hI.blk; dsimp only at h9; (simp (disch := (first | omega | assumption)) only [↓appC, ↓updN, ↓updS, ↓app0]); exact h9, ⟨h2_1.1, by dsimp only; omega⟩⟩ (by dsimp only; omega)) (by (repeat first | exact LE.nil _ | refine LE.unk _ _ ?_ | refine LE.eq _ _ _ rfl ?_)) (LessH.refl _) (Nat.le_refl _)) | (exact C6 (ih ⟨i + 1, V.sl false false ((lgB (ly G) i).map tT), m + 1, GG⟩ ⟨by dsimp only; omega, by dsimp only; rw [lgB_n (L := ly G) (i := i) (by first | omega | (rw [hz, List.length_nil]; omega))]; exact (bO_1 hz).symm, fun j bb hj hb => by dsimp only; rw [hGG]; have h9 := hI.old j bb hj hb; dsimp only at h9; (simp (disch := (first | omega | assumption)) only [↓appC, ↓updN, ↓updS, ↓app0]); exact h9, by dsimp only; rw [hGG]; have h9 := hI.blk; dsimp only at h9; (simp (disch := (first | omega | assumption)) only [↓appC, ↓updN, ↓updS, ↓app0]); exact h9, ⟨h2_1.1, by dsimp only; omega⟩⟩ (by dsimp only; omega)) (by (repeat first | exact LE.nil _ | refine LE.unk _ _ ?_ | refine LE.eq _ _ _ rfl ?_)) (LessH.refl _) (Nat.le_refl _))
  ·have hi : lgO G = lgB (ly G) i := by unfold lgO; rw [show i = (ly G).length by omega]
   exact ⟨m, by omega, fiO rfl (show V.sl false false ((lgB (ly G) i).map tT) = bO (lgO G) from by rw [hi]; exact (bO_1 hz).symm) (fun hz2 id2 b2 hb2 => by
    have hb2 : h id2 = some b2 := hb2
    refine hI.old id2 b2 ?_ hb2
    rcases Nat.lt_or_ge id2 n with h1 | h1
    ·exact h1
    ·rw [hz2 id2 h1] at hb2; cases hb2) (Nat.le_refl _)⟩
theorem r105 (G : Grp) (hF : G.fa.length ≤ 1048576) (hN : (G.rs.length : Int) = G.nd) (hR : G.rs.length ≤ 1048576) (hB : ∀ i, (lgS G i).length ≤ 1048576) : Pure En 105 [.agg G.T] [.one (.sl false ((lgO G).map tT))] := by
 have hl : (G.rs.map Rep.T).length = G.rs.length := List.length_map ..
 refine Pure.of_ev (st := []) Tryz.func105 rfl kb ?_
 refine E1 (es := []) j4 kz kb rfl rfl ?_
 refine B2 (fun (a : LG) => [.unk, .ptr 0 0 0, .unk, a.o, .int .i64 a.i]) (fun (a : LG) => hp [(0, ⟨[[.int .i64 G.nd, .sl false false (G.fa.map iT), .sl false false (G.rs.map Rep.T), .sl false false (G.wi.map Pc.T), .sl false false (G.se.map Msg.T)]], 5, 67⟩), (1, ⟨[], 1, 9⟩)]) (fun (a : LG) => 2) (fun (a : LG) => a.i ≤ G.rs.length ∧ a.o = bS (lgS G a.i) ∧ a.m = 2) (fun (a : LG) => G.rs.length - a.i) ⟨0, .view 1 0 0, 2⟩ ?_ ?_ ?_ ?_ ?_
 ·exact ⟨Nat.zero_le _, (bS_0 rfl).symm, rfl⟩
 ·(repeat first | exact LE.nil _ | refine LE.unk _ _ ?_ | refine LE.eq _ _ _ rfl ?_)
 ·(repeat first | exact A4 | (refine A5 ?_ ?_; exact E3))
 ·exact Nat.le_refl _
 intro ⟨i, o, m⟩ hI ih
 obtain ⟨u0, u1, u2⟩ := hI
 dsimp only at u0 u1 u2 ⊢
 have hl5 : ((G.rs.getD i Rep0).lg.map tT).length = (G.rs.getD i Rep0).lg.length := List.length_map ..
 have hl6 : ((lgS G i).map tT).length = (lgS G i).length := List.length_map ..
 have hB2 := hB i
 rcases Classical.em (lgS G i = []) with hz | hz
 ·skip
  rw [bS_0 hz] at u1
  subst u1
  refine A6 (st := []) ?_
  refine A2 ?_ (by exact Q0) (by exact Q2)
  refine br ?_ ?_ <;> intro h3_3
  ·refine A2 ?_ (by exact Q0) (by exact Q2)
   refine B3 (r103 G.fa (i : Int) false hF) rfl j2 ?_ ?_ <;> intro h5_3
   ·refine A9 ?_
    first | (exact C6 (ih ⟨i + 1, .sl false false ((G.rs.getD i Rep0).lg.map tT), 2⟩ ⟨by dsimp only; omega, by dsimp only; rw [T9 (G := G) (i := i) h5_3 (by first | omega | (rw [hz, List.length_nil]; omega)), bS_1 (gtne (k := 0) (by omega))], rfl⟩ (by dsimp only; omega)) (by (repeat first | exact LE.nil _ | refine LE.unk _ _ ?_ | refine LE.eq _ _ _ rfl ?_)) (by (repeat first | exact A4 | (refine A5 ?_ ?_; exact E3))) (Nat.le_refl _)) | (exact C6 (ih ⟨i + 1, V.view 1 0 0, 2⟩ ⟨by dsimp only; omega, by dsimp only; rw [U0 (G := G) (i := i) (fun q => by first | exact q.1 h5_3 | (have := q.2; omega) | (have := q.2; rw [hz, List.length_nil] at this; omega))]; exact (bS_0 hz).symm, rfl⟩ (by dsimp only; omega)) (by (repeat first | exact LE.nil _ | refine LE.unk _ _ ?_ | refine LE.eq _ _ _ rfl ?_)) (by (repeat first | exact A4 | (refine A5 ?_ ?_; exact E3))) (Nat.le_refl _))
   ·refine A2 ?_ (by exact Q0) (by exact Q2)
    (refine A9 (C4 (by first | rfl | assumption | (exact A7 Rep.T Rep0 (k := i) (by omega))) rfl ?_))
    refine br ?_ ?_ <;> intro h5_15
    ·refine A2 ?_ (by exact Q0) (by exact Q2)
     (refine A9 (C4 (by first | rfl | assumption | (exact A7 Rep.T Rep0 (k := i) (by omega))) rfl ?_))
     refine A9 ?_
     first | (exact C6 (ih ⟨i + 1, .sl false false ((G.rs.getD i Rep0).lg.map tT), 2⟩ ⟨by dsimp only; omega, by dsimp only; rw [T9 (G := G) (i := i) h5_3 (by first | omega | (rw [hz, List.length_nil]; omega)), bS_1 (gtne (k := 0) (by omega))], rfl⟩ (by dsimp only; omega)) (by (repeat first | exact LE.nil _ | refine LE.unk _ _ ?_ | refine LE.eq _ _ _ rfl ?_)) (by (repeat first | exact A4 | (refine A5 ?_ ?_; exact E3))) (Nat.le_refl _)) | (exact C6 (ih ⟨i + 1, V.view 1 0 0, 2⟩ ⟨by dsimp only; omega, by dsimp only; rw [U0 (G := G) (i := i) (fun q => by first | exact q.1 h5_3 | (have := q.2; omega) | (have := q.2; rw [hz, List.length_nil] at this; omega))]; exact (bS_0 hz).symm, rfl⟩ (by dsimp only; omega)) (by (repeat first | exact LE.nil _ | refine LE.unk _ _ ?_ | refine LE.eq _ _ _ rfl ?_)) (by (repeat first | exact A4 | (refine A5 ?_ ?_; exact E3))) (Nat.le_refl _))
    ·refine A9 ?_
     first | (exact C6 (ih ⟨i + 1, .sl false false ((G.rs.getD i Rep0).lg.map tT), 2⟩ ⟨by dsimp only; omega, by dsimp only; rw [T9 (G := G) (i := i) h5_3 (by first | omega | (rw [hz, List.length_nil]; omega)), bS_1 (gtne (k := 0) (by omega))], rfl⟩ (by dsimp only; omega)) (by (repeat first | exact LE.nil _ | refine LE.unk _ _ ?_ | refine LE.eq _ _ _ rfl ?_)) (by (repeat first | exact A4 | (refine A5 ?_ ?_; exact E3))) (Nat.le_refl _)) | (exact C6 (ih ⟨i + 1, V.view 1 0 0, 2⟩ ⟨by dsimp only; omega, by dsimp only; rw [U0 (G := G) (i := i) (fun q => by first | exact q.1 h5_3 | (have := q.2; omega) | (have := q.2; rw [hz, List.length_nil] at this; omega))]; exact (bS_0 hz).symm, rfl⟩ (by dsimp only; omega)) (by (repeat first | exact LE.nil _ | refine LE.unk _ _ ?_ | refine LE.eq _ _ _ rfl ?_)) (by (repeat first | exact A4 | (refine A5 ?_ ?_; exact E3))) (Nat.le_refl _))
  ·refine E1 (es := []) j4 kz kb rfl rfl ?_
   (apply eap (s' := 16)  rfl rfl; exact Q0; exact j2; exact Q21; exact j2; exact kz; exact L8; (first | rfl | assumption | (focus (intro c hc; cases hc; done)) | (focus (intro c hc; obtain ⟨x, hx, rfl⟩ := List.mem_map.1 hc; obtain ⟨y, hy, rfl⟩ := List.mem_map.1 hx; rfl)) | (focus (simp; done)) | (focus (intro _ hc; rw [List.mem_singleton] at hc; subst hc; rfl)) | (intro _ _; simp_all)); exact Q33; exact Q33)
   obtain rfl : i = G.rs.length := by omega
   have hq : lgO G = [] := by rw [X1]; exact hz
   rw [hq]
   refine C5 [2 + 1] rfl ?_
   exact SnapL.cons _ _ _ _ (.one _ _ (.weak _ _ (B1 [] (List.mem_singleton.2 rfl) (by exact Q0) rfl rfl))) SnapL.nil
 ·skip
  rw [bS_1 hz] at u1
  subst u1
  refine A6 (st := []) ?_
  refine A2 ?_ (by exact Q0) (by exact Q2)
  refine br ?_ ?_ <;> intro h3_3
  ·refine A2 ?_ (by exact Q0) (by exact Q2)
   refine B3 (r103 G.fa (i : Int) false hF) rfl j2 ?_ ?_ <;> intro h5_3
   ·refine A9 ?_
    first | (exact C6 (ih ⟨i + 1, .sl false false ((G.rs.getD i Rep0).lg.map tT), 2⟩ ⟨by dsimp only; omega, by dsimp only; rw [T9 (G := G) (i := i) h5_3 (by first | omega | (rw [hz, List.length_nil]; omega)), bS_1 (gtne (k := 0) (by omega))], rfl⟩ (by dsimp only; omega)) (by (repeat first | exact LE.nil _ | refine LE.unk _ _ ?_ | refine LE.eq _ _ _ rfl ?_)) (by (repeat first | exact A4 | (refine A5 ?_ ?_; exact E3))) (Nat.le_refl _)) | (exact C6 (ih ⟨i + 1, V.sl false false ((lgS G i).map tT), 2⟩ ⟨by dsimp only; omega, by dsimp only; rw [U0 (G := G) (i := i) (fun q => by first | exact q.1 h5_3 | (have := q.2; omega) | (have := q.2; rw [hz, List.length_nil] at this; omega))]; exact (bS_1 hz).symm, rfl⟩ (by dsimp only; omega)) (by (repeat first | exact LE.nil _ | refine LE.unk _ _ ?_ | refine LE.eq _ _ _ rfl ?_)) (by (repeat first | exact A4 | (refine A5 ?_ ?_; exact E3))) (Nat.le_refl _))
   ·refine A2 ?_ (by exact Q0) (by exact Q2)
    (refine A9 (C4 (by first | rfl | assumption | (exact A7 Rep.T Rep0 (k := i) (by omega))) rfl ?_))
    refine br ?_ ?_ <;> intro h5_15
    ·refine A2 ?_ (by exact Q0) (by exact Q2)
     (refine A9 (C4 (by first | rfl | assumption | (exact A7 Rep.T Rep0 (k := i) (by omega))) rfl ?_))
     refine A9 ?_
     first | (exact C6 (ih ⟨i + 1, .sl false false ((G.rs.getD i Rep0).lg.map tT), 2⟩ ⟨by dsimp only; omega, by dsimp only; rw [T9 (G := G) (i := i) h5_3 (by first | omega | (rw [hz, List.length_nil]; omega)), bS_1 (gtne (k := 0) (by omega))], rfl⟩ (by dsimp only; omega)) (by (repeat first | exact LE.nil _ | refine LE.unk _ _ ?_ | refine LE.eq _ _ _ rfl ?_)) (by (repeat first | exact A4 | (refine A5 ?_ ?_; exact E3))) (Nat.le_refl _)) | (exact C6 (ih ⟨i + 1, V.sl false false ((lgS G i).map tT), 2⟩ ⟨by dsimp only; omega, by dsimp only; rw [U0 (G := G) (i := i) (fun q => by first | exact q.1 h5_3 | (have := q.2; omega) | (have := q.2; rw [hz, List.length_nil] at this; omega))]; exact (bS_1 hz).symm, rfl⟩ (by dsimp only; omega)) (by (repeat first | exact LE.nil _ | refine LE.unk _ _ ?_ | refine LE.eq _ _ _ rfl ?_)) (by (repeat first | exact A4 | (refine A5 ?_ ?_; exact E3))) (Nat.le_refl _))
    ·refine A9 ?_
     first | (exact C6 (ih ⟨i + 1, .sl false false ((G.rs.getD i Rep0).lg.map tT), 2⟩ ⟨by dsimp only; omega, by dsimp only; rw [T9 (G := G) (i := i) h5_3 (by first | omega | (rw [hz, List.length_nil]; omega)), bS_1 (gtne (k := 0) (by omega))], rfl⟩ (by dsimp only; omega)) (by (repeat first | exact LE.nil _ | refine LE.unk _ _ ?_ | refine LE.eq _ _ _ rfl ?_)) (by (repeat first | exact A4 | (refine A5 ?_ ?_; exact E3))) (Nat.le_refl _)) | (exact C6 (ih ⟨i + 1, V.sl false false ((lgS G i).map tT), 2⟩ ⟨by dsimp only; omega, by dsimp only; rw [U0 (G := G) (i := i) (fun q => by first | exact q.1 h5_3 | (have := q.2; omega) | (have := q.2; rw [hz, List.length_nil] at this; omega))]; exact (bS_1 hz).symm, rfl⟩ (by dsimp only; omega)) (by (repeat first | exact LE.nil _ | refine LE.unk _ _ ?_ | refine LE.eq _ _ _ rfl ?_)) (by (repeat first | exact A4 | (refine A5 ?_ ?_; exact E3))) (Nat.le_refl _))
  ·refine E1 (es := []) j4 kz kb rfl rfl ?_
   (apply eap (s' := 16)  rfl rfl; exact Q0; exact j2; exact Q21; exact j2; exact kz; exact L8; (first | rfl | assumption | (focus (intro c hc; cases hc; done)) | (focus (intro c hc; obtain ⟨x, hx, rfl⟩ := List.mem_map.1 hc; obtain ⟨y, hy, rfl⟩ := List.mem_map.1 hx; rfl)) | (focus (simp; done)) | (focus (intro _ hc; rw [List.mem_singleton] at hc; subst hc; rfl)) | (intro _ _; simp_all)); exact Q33; exact Q33)
   obtain rfl : i = G.rs.length := by omega
   have hq : lgO G = lgS G G.rs.length := X1 G
   rw [hq]
   refine C5 [2 + 1] rfl ?_
   exact SnapL.cons _ _ _ _ (.one _ _ (G4 (f := tT) (sz := 1) (ty := 9) (L := lgS G G.rs.length) (List.mem_singleton.2 rfl) (by (simp (disch := omega) only [↓app0, ↓appC, ↓updS, ↓updN, ↓hpS, ↓hpN]); exact congrArg (fun z => some (Blk.mk z 1 9)) (rowsF _)) (by first | rfl | simp))) SnapL.nil
open Go.V
set_option linter.unusedVariables false
set_option linter.unusedSimpArgs false
set_option maxRecDepth 20000
set_option maxHeartbeats 4000000
theorem nd_sub {α : Type} [DecidableEq α] : ∀ {A B : List α}, A.Nodup → A ⊆ B → A.length ≤ B.length
 | [], _, _, _ => Nat.zero_le _
 | a :: A, B, hn, hs => by
  have ha : a ∈ B := hs List.mem_cons_self
  have hA : A ⊆ B.erase a := fun x hx => by
   have hx2 : x ≠ a := fun e => by subst e; exact (List.nodup_cons.1 hn).1 hx
   exact (List.mem_erase_of_ne hx2).2 (hs (List.mem_cons_of_mem _ hx))
  have := nd_sub (List.nodup_cons.1 hn).2 hA
  have hB : 0 < B.length := List.length_pos_of_mem ha
  rw [List.length_erase_of_mem ha] at this
  rw [List.length_cons]; omega
def lgG (G : Grp) (R : Rep) : Prop := R.lg = (lgO G).take R.lg.length
def agr (G : Grp) : Prop := ∀ j, j < G.rs.length → ¬ isF G.fa (j : Int) → lgG G (G.rs.getD j Rep0)
noncomputable instance dcAgr (G : Grp) : Decidable (G.OK ∧ agr G) := Classical.propDecidable _
noncomputable instance dcAgr2 (G : Grp) : Decidable (agr G) := Classical.propDecidable _
noncomputable instance dcLgG (G : Grp) (R : Rep) : Decidable (lgG G R) := Classical.propDecidable _
theorem N8 (G : Grp) : ∀ (i : Nat) (x : Rep), x ∈ lyL G i ↔ ∃ j, j < i ∧ ¬ isF G.fa (j : Int) ∧ x = G.rs.getD j Rep0
 | 0, x => by
  constructor
  ·intro h; cases h
  ·rintro ⟨j, hj, _⟩; exact absurd hj (Nat.not_lt_zero j)
 | i + 1, x => by
  by_cases h : isF G.fa (i : Int)
  ·rw [W9 h, N8 G i x]
   constructor
   ·rintro ⟨j, h1, h2, h3⟩; exact ⟨j, by omega, h2, h3⟩
   ·rintro ⟨j, h1, h2, h3⟩; exact ⟨j, by
     rcases Nat.lt_or_ge j i with q | q
     ·exact q
     ·rw [show j = i by omega] at h2; exact absurd h h2, h2, h3⟩
  ·rw [X0 h, List.mem_append, N8 G i x, List.mem_singleton]
   constructor
   ·rintro (⟨j, h1, h2, h3⟩ | rfl)
    ·exact ⟨j, by omega, h2, h3⟩
    ·exact ⟨i, by omega, h, rfl⟩
   ·rintro ⟨j, h1, h2, h3⟩
    rcases Nat.lt_or_ge j i with q | q
    ·exact .inl ⟨j, q, h2, h3⟩
    ·rw [show j = i by omega] at h3; exact .inr h3
theorem lgS_ge (G : Grp) : ∀ (i j : Nat), j < i → ¬ isF G.fa (j : Int) → (G.rs.getD j Rep0).lg.length ≤ (lgS G i).length
 | 0, j, h, _ => absurd h (Nat.not_lt_zero j)
 | i + 1, j, h, hf => by
  by_cases q : ¬ isF G.fa (i : Int) ∧ (G.rs.getD i Rep0).lg.length > (lgS G i).length
  ·rw [T9 q.1 q.2]
   rcases Nat.lt_or_ge j i with z | z
   ·have := lgS_ge G i j z hf; omega
   ·rw [show j = i by omega]; exact Nat.le_refl _
  ·rw [U0 q]
   rcases Nat.lt_or_ge j i with z | z
   ·exact lgS_ge G i j z hf
   ·rw [show j = i by omega] at hf ⊢
    exact Nat.le_of_not_lt fun w => q ⟨hf, w⟩
theorem ly_le {G : Grp} {R : Rep} (h : R ∈ ly G) : R.lg.length ≤ (lgO G).length := by
 obtain ⟨j, h1, h2, rfl⟩ := (N8 G _ R).1 h
 rw [X1]; exact lgS_ge G _ j h1 h2
theorem K5 {G : Grp} : agr G ↔ ¬ anyP (fun R => ¬ lgG G R) (ly G) := by
 constructor
 ·rintro h ⟨R, hR, hn⟩
  obtain ⟨j, h1, h2, rfl⟩ := (N8 G _ R).1 hR
  exact hn (h j h1 h2)
 ·intro h j h1 h2
  exact Classical.byContradiction fun q => h ⟨_, (N8 G _ _).2 ⟨j, h1, h2, rfl⟩, q⟩
theorem ly_ne {G : Grp} (h : G.OK) : ∀ i, G.rs.length ≤ i → lyL G i ≠ [] := by
 obtain ⟨⟨hn, ⟨hf, hr⟩, hl, _, _⟩, _⟩ := h
 intro i hi e
 have hF : (G.fa.length : Int) < G.nd := by rcases hn with e | e | e <;> rw [e] at hf ⊢ <;> omega
 have hp : 0 < G.nd := by rcases hn with e | e | e <;> omega
 have hall : ∀ j, j < G.rs.length → isF G.fa (j : Int) := fun j hj => Classical.byContradiction fun q => by
  have : G.rs.getD j Rep0 ∈ lyL G i := (N8 G i _).2 ⟨j, by omega, q, rfl⟩
  rw [e] at this; cases this
 have hsub : (List.range G.rs.length).map (fun (j : Nat) => (j : Int)) ⊆ G.fa := by
  intro x hx
  obtain ⟨j, hj, rfl⟩ := List.mem_map.1 hx
  obtain ⟨y, hy, rfl⟩ := hall j (List.mem_range.1 hj)
  exact hy
 have hnd : ((List.range G.rs.length).map (fun (j : Nat) => (j : Int))).Nodup := by
  refine List.Pairwise.map _ ?_ List.nodup_range
  intro a b e q; exact e (Int.ofNat.inj q)
 have hle : ((List.range G.rs.length).map (fun (j : Nat) => (j : Int))).length ≤ G.fa.length := nd_sub hnd hsub
 rw [List.length_map, List.length_range] at hle
 omega
theorem eqOfGet {A B : List ByteArray} (h : A.length = B.length) (k : ∀ j, j < A.length → A.getD j ⟨#[]⟩ = B.getD j ⟨#[]⟩) : A = B := by
 refine List.ext_getElem h fun i h1 h2 => ?_
 have := k i h1
 simpa [h1, h2] using this
noncomputable instance dcEqL (A B : List ByteArray) : Decidable (A = B) := Classical.propDecidable _
theorem s109 (A B : List ByteArray) (c1 c2 : Bool) (hA : A.length ≤ 1048576) (hB : B.length ≤ 1048576) : Pure En 109 [.one (.sl c1 (A.map tT)), .one (.sl c2 (B.map tT))] [.one (.bool (decide (A = B)))] := by
 have hl1 : (A.map tT).length = A.length := List.length_map ..
 have hl2 : (B.map tT).length = B.length := List.length_map ..
 refine Pure.of_ev (st := []) Tryz.func109 rfl kb ?_
 refine br ?_ ?_ <;> intro h1_4
 ·refine B0 rfl ?_; intro e; rw [e] at h1_4; exact h1_4 rfl
 ·refine C3 (fun (i : Nat) => [.sl false c1 (A.map tT), .sl false c2 (B.map tT), .unk, .unk, .unk, .unk, .unk, .unk, .unk, .unk, .unk, .unk, .int .i64 ((A.map tT).length : Int), .int .i64 i]) (fun (i : Nat) => i ≤ A.length ∧ ∀ j, j < i → A.getD j ⟨#[]⟩ = B.getD j ⟨#[]⟩) (fun (i : Nat) => A.length - i) 0 ?_ ?_ ?_
  ·exact ⟨Nat.zero_le _, D8⟩
  ·(repeat first | exact LE.nil _ | refine LE.unk _ _ ?_ | refine LE.eq _ _ _ rfl ?_)
  intro i hI ih
  obtain ⟨u0, u2⟩ := hI
  refine A6 (st := []) ?_
  refine br ?_ ?_ <;> intro h4_0
  ·(refine A9 (C4 (by first | rfl | assumption | (exact A7 tT ⟨#[]⟩ (k := i) (by omega))) rfl ?_))
   (refine A9 (C4 (by first | rfl | assumption | (exact A7 tT ⟨#[]⟩ (k := i) (by omega))) rfl ?_))
   refine br ?_ ?_ <;> intro h6_8
   ·refine B0 rfl ?_; intro e; rw [e] at h6_8; exact h6_8 rfl
   ·refine A9 ?_
    exact P2 (ih (i + 1) ⟨by omega, D0 u2 (Classical.not_not.1 h6_8)⟩ (by omega)) (by (repeat first | exact LE.nil _ | refine LE.unk _ _ ?_ | refine LE.eq _ _ _ rfl ?_))
  ·refine B8 rfl ?_; exact eqOfGet (by omega) fun j hj => u2 j (by omega)
theorem s109n (A : List ByteArray) (hA : A.length ≤ 1048576) : Pure En 109 [.one (.sl false (A.map tT)), .one .nsl] [.one (.bool (decide (A = [])))] := by
 have hl1 : (A.map tT).length = A.length := List.length_map ..
 refine Pure.of_ev (st := []) Tryz.func109 rfl kb ?_
 refine br ?_ ?_ <;> intro h1_4
 ·first | (refine B0 rfl ?_; intro e; rw [e] at h1_4; exact h1_4 rfl) | (refine B8 rfl ?_; exact List.length_eq_zero_iff.1 (by omega))
 ·refine C3 (fun (i : Nat) => [.sl false false (A.map tT), .nsl, .unk, .unk, .unk, .unk, .unk, .unk, .unk, .unk, .unk, .unk, .int .i64 ((A.map tT).length : Int), .int .i64 i]) (fun (i : Nat) => i = 0) (fun (i : Nat) => A.length - i) 0 ?_ ?_ ?_
  ·exact rfl
  ·(repeat first | exact LE.nil _ | refine LE.unk _ _ ?_ | refine LE.eq _ _ _ rfl ?_)
  intro i hI ih
  subst hI
  refine A6 (st := []) ?_
  refine br (fun h => absurd h ((by omega))) ?_
  intro h4_0
  first | (refine B0 rfl ?_; intro e; rw [e] at h1_4; exact h1_4 rfl) | (refine B8 rfl ?_; exact List.length_eq_zero_iff.1 (by omega))
theorem o108n (G : Grp) (R : Rep) (hR : R.lg.length ≤ 1048576) (hle : R.lg.length ≤ (lgO G).length) (hz : lgO G = []) {id : Nat} {h : Heap} {n : Nat} (hid : id < n) (hh : h id = some ⟨[[.nsl]], 1, 24⟩) : V.Open En 108 [.agg (repV R), .ptr id 0 0] h n (.bool (decide (¬ lgG G R))) [] (n + 1) := by
 have hl1 : (R.lg.map tT).length = R.lg.length := List.length_map ..
 have hl2 : ((lgO G).map tT).length = (lgO G).length := List.length_map ..
 have hlg : R.lg = [] := List.length_eq_zero_iff.1 (by rw [hz] at hle; simpa using hle)
 have e : repV R = [.int .i64 R.id, .int .i64 R.nd, .int .i64 R.vw, .bool R.ac, .sl false false (R.sl.map Slt.T), .sl false false (R.cs.map (Ct.T false)), .sl false false [], .sl false false (R.ch.map Msg.T)] := by unfold repV; rw [hlg]; rfl
 rw [e]
 refine V.Open.of_ev (st := []) Tryz.func108 rfl kb ?_
 refine A2 ?_ (by exact Q6) (by exact Q2)
 refine A2 ?_ (by exact Q6) (by exact Q2)
 refine A2 ?_ (by exact Q6) (by exact Q2)
 refine esnn j5 ?_
 refine B3 (s109n [] (Nat.zero_le _)) rfl j2 ?_ ?_ <;> intro h1_7
 ·first
  | (rw [decide_eq_false (show ¬ ¬ lgG G R from fun q => q (by unfold lgG; rw [hlg, hz]; rfl))]; exact fiO rfl rfl (leWr (fun j hj => absurd hj List.not_mem_nil) (fun j hj hn => by simp (disch := omega) only [↓app0, ↓appC, ↓updS, ↓updN])) (Nat.le_refl _))
  | exact absurd rfl h1_7
 ·first
  | (rw [decide_eq_false (show ¬ ¬ lgG G R from fun q => q (by unfold lgG; rw [hlg, hz]; rfl))]; exact fiO rfl rfl (leWr (fun j hj => absurd hj List.not_mem_nil) (fun j hj hn => by simp (disch := omega) only [↓app0, ↓appC, ↓updS, ↓updN])) (Nat.le_refl _))
  | exact absurd rfl h1_7
theorem o108s (G : Grp) (R : Rep) (hR : R.lg.length ≤ 1048576) (hle : R.lg.length ≤ (lgO G).length) (hz : lgO G ≠ []) {id : Nat} {h : Heap} {n : Nat} (hid : id < n) (hh : h id = some ⟨[[.sl false false ((lgO G).map tT)]], 1, 24⟩) : V.Open En 108 [.agg (repV R), .ptr id 0 0] h n (.bool (decide (¬ lgG G R))) [] (n + 1) := by
 have hl1 : (R.lg.map tT).length = R.lg.length := List.length_map ..
 have hl2 : ((lgO G).map tT).length = (lgO G).length := List.length_map ..
 have S : Pure En 109 [.one (.sl false (R.lg.map tT)), .one (.sl false ((((lgO G).map tT).drop (0 : Int).toNat).take (((R.lg.map tT).length : Int).toNat - (0 : Int).toNat)))] [.one (.bool (decide (R.lg = (lgO G).take R.lg.length)))] := by
  rw [show ((((lgO G).map tT).drop (0 : Int).toNat).take (((R.lg.map tT).length : Int).toNat - (0 : Int).toNat)) = ((lgO G).take R.lg.length).map tT by simp [List.map_take]]
  exact s109 R.lg ((lgO G).take R.lg.length) false false (by omega) (by rw [List.length_take]; omega)
 refine V.Open.of_ev (st := []) Tryz.func108 rfl kb ?_
 refine A2 ?_ (by exact Q6) (by exact Q2)
 refine A2 ?_ (by exact Q6) (by exact Q2)
 refine A2 ?_ (by exact Q6) (by exact Q2)
 (refine esll j5 ?_ ?_ ?_ ?_ ?_; (first | omega | assumption); (first | omega | assumption); (first | omega | assumption); (first | rfl | assumption | (focus (intro c hc; obtain ⟨x, hx, rfl⟩ := List.mem_map.1 hc; rfl)) | simp))
 refine B3 S rfl j2 ?_ ?_ <;> intro h1_7
 ·first
  | (rw [decide_eq_false (show ¬ ¬ lgG G R from fun q => q h1_7)]; exact fiO rfl rfl (leWr (fun j hj => absurd hj List.not_mem_nil) (fun j hj hn => by simp (disch := omega) only [↓app0, ↓appC, ↓updS, ↓updN])) (Nat.le_refl _))
  | (rw [decide_eq_true (show ¬ lgG G R from fun q => h1_7 q)]; exact fiO rfl rfl (leWr (fun j hj => absurd hj List.not_mem_nil) (fun j hj hn => by simp (disch := omega) only [↓app0, ↓appC, ↓updS, ↓updN])) (Nat.le_refl _))
 ·first
  | (rw [decide_eq_false (show ¬ ¬ lgG G R from fun q => q h1_7)]; exact fiO rfl rfl (leWr (fun j hj => absurd hj List.not_mem_nil) (fun j hj hn => by simp (disch := omega) only [↓app0, ↓appC, ↓updS, ↓updN])) (Nat.le_refl _))
  | (rw [decide_eq_true (show ¬ lgG G R from fun q => h1_7 q)]; exact fiO rfl rfl (leWr (fun j hj => absurd hj List.not_mem_nil) (fun j hj hn => by simp (disch := omega) only [↓app0, ↓appC, ↓updS, ↓updN])) (Nat.le_refl _))
open Go.V
set_option linter.unusedVariables false
set_option linter.unusedSimpArgs false
set_option maxRecDepth 20000
set_option maxHeartbeats 4000000
theorem ctP {n : Int} (hn : nodes n) {c : Ct} : ctOK mk bare rdM dgB n c → 0 < c.ps.length := fun h => hce ⟨hn, h⟩
theorem r75 (R : Rep) (hn : nodes R.nd) (L : List Msg) (kd sq : Int) (hL : L.length ≤ 1048576) : Pure En 75 [.agg R.T, .one (.sl false (L.map Msg.T)), .one (.int .i64 kd), .one (.int .i64 sq)] [.one (.bool (decide (∀ i, i < L.length → arS R.nd kd R.vw sq L i)))] := by
 have hl : (L.map Msg.T).length = L.length := List.length_map ..
 refine Pure.of_ev (st := []) Tryz.func75 rfl kb ?_
 refine B2 (fun (a : Nat × Nat) => [.unk, .sl false false (L.map Msg.T), .int .i64 kd, .int .i64 sq, .ptr 0 0 0, .unk, .unk, .unk, .unk, .int .i64 a.1]) (fun (a : Nat × Nat) => hp [(0, ⟨[[.int .i64 R.id, .int .i64 R.nd, .int .i64 R.vw, .bool R.ac, .sl false false (R.sl.map Slt.T), .sl false false (R.cs.map (Ct.T false)), .sl false false (R.lg.map tT), .sl false false (R.ch.map Msg.T)]], 8, 54⟩)]) (fun (a : Nat × Nat) => a.2) (fun (a : Nat × Nat) => a.1 ≤ L.length ∧ 1 ≤ a.2 ∧ ∀ j, j < a.1 → arS R.nd kd R.vw sq L j) (fun (a : Nat × Nat) => L.length - a.1) (0, 1) ?_ ?_ ?_ ?_ ?_
 ·exact ⟨Nat.zero_le _, Nat.le_refl _, D8⟩
 ·(repeat first | exact LE.nil _ | refine LE.unk _ _ ?_ | refine LE.eq _ _ _ rfl ?_)
 ·(repeat first | exact A4 | (refine A5 ?_ ?_; exact E3))
 ·exact Nat.le_refl _
 intro ⟨i, m⟩ hI ih
 obtain ⟨u0, u1, u2⟩ := hI
 dsimp only at u0 u1 u2 ⊢
 refine A6 (st := []) ?_
 refine br ?_ ?_ <;> intro h2_3
 ·(refine A9 (C4 (by first | rfl | assumption | (first | exact A7 Slt.T Slt0 (k := i) (by omega) | exact A7 (Ct.T false) Ct0 (k := i) (by omega) | exact A7 tT ⟨#[]⟩ (k := i3) (by omega) | exact A7 Msg.T Msg0 (k := i) (by omega) | exact A7 Msg.T Msg0 (k := 0) (by omega) | (have e : ((i : Int) - 1).toNat = i - 1 := (by omega); rw [e]; exact A7 Msg.T Msg0 (k := i - 1) (by omega)))) rfl ?_))
  (apply est (u := .agg [.int _ _, .int _ _, .int _ _, .int _ _, .str _, .str _, .str _]) j3; exact Q0; exact Q2; exact j4; exact kb; rfl)
  refine A2 ?_ (by exact Q0) (by exact Q2)
  refine br ?_ ?_ <;> intro h5_3
  ·refine B0 rfl ?_; intro q; obtain ⟨e1, e2, e3, ⟨_, e4⟩, e5⟩ := q i (by omega); first | omega | exact h5_21 e4 | (have := e5 (by omega); omega)
  ·refine A2 ?_ (by exact Q0) (by exact Q2)
   refine A2 ?_ (by exact Q0) (by exact Q2)
   refine br ?_ ?_ <;> intro h5_9
   ·refine B0 rfl ?_; intro q; obtain ⟨e1, e2, e3, ⟨_, e4⟩, e5⟩ := q i (by omega); first | omega | exact h5_21 e4 | (have := e5 (by omega); omega)
   ·refine A2 ?_ (by exact Q0) (by exact Q2)
    refine br ?_ ?_ <;> intro h5_15
    ·refine B0 rfl ?_; intro q; obtain ⟨e1, e2, e3, ⟨_, e4⟩, e5⟩ := q i (by omega); first | omega | exact h5_21 e4 | (have := e5 (by omega); omega)
    ·refine A2 ?_ (by exact Q0) (by exact Q2)
     (apply C7 (vs := [.int _ _, .int _ _, .int _ _, .int _ _, .str _, .str _, .str _]) j2; exact Q0; exact Q2; rfl; exact kb; rfl)
     refine B3 (r93 R.nd (L.getD i Msg0)) rfl j2 ?_ ?_ <;> intro h5_21
     ·refine br ?_ ?_ <;> intro h5_26
      ·refine A9 ?_
       (refine A9 (C4 (by first | rfl | assumption | (first | exact A7 Slt.T Slt0 (k := i) (by omega) | exact A7 (Ct.T false) Ct0 (k := i) (by omega) | exact A7 tT ⟨#[]⟩ (k := i3) (by omega) | exact A7 Msg.T Msg0 (k := i) (by omega) | exact A7 Msg.T Msg0 (k := 0) (by omega) | (have e : ((i : Int) - 1).toNat = i - 1 := (by omega); rw [e]; exact A7 Msg.T Msg0 (k := i - 1) (by omega)))) rfl ?_))
       refine A2 ?_ (by exact Q0) (by exact Q2)
       refine br ?_ ?_ <;> intro h5_36
       ·refine B0 rfl ?_; intro q; obtain ⟨e1, e2, e3, ⟨_, e4⟩, e5⟩ := q i (by omega); first | omega | exact h5_21 e4 | (have := e5 (by omega); omega)
       ·refine A9 ?_
        exact C6 (ih (i + 1, m + 1) ⟨by dsimp only; omega, by dsimp only; omega, D0 u2 ⟨by omega, by omega, by omega, ⟨hn, h5_21⟩, fun _ => by omega⟩⟩ (by dsimp only; omega)) (by (repeat first | exact LE.nil _ | refine LE.unk _ _ ?_ | refine LE.eq _ _ _ rfl ?_)) (by (repeat first | exact A4 | (refine A5 ?_ ?_; exact E3))) (Nat.le_refl _)
      ·refine A9 ?_
       exact C6 (ih (i + 1, m + 1) ⟨by dsimp only; omega, by dsimp only; omega, D0 u2 ⟨by omega, by omega, by omega, ⟨hn, h5_21⟩, fun _ => by omega⟩⟩ (by dsimp only; omega)) (by (repeat first | exact LE.nil _ | refine LE.unk _ _ ?_ | refine LE.eq _ _ _ rfl ?_)) (by (repeat first | exact A4 | (refine A5 ?_ ?_; exact E3))) (Nat.le_refl _)
     ·refine B0 rfl ?_; intro q; obtain ⟨e1, e2, e3, ⟨_, e4⟩, e5⟩ := q i (by omega); first | omega | exact h5_21 e4 | (have := e5 (by omega); omega)
 ·refine B8 rfl ?_; exact fun j hj => u2 j (by omega)
theorem r27 (R : Rep) (hb : TBs 1048576 R.T) : Pure En 27 [.agg R.T] [.one (.bool (decide R.OK))] := by
 obtain ⟨hS0, hS1, hS2, hC0, hC1, hG0, hM0⟩ := Rep.sm hb
 have hl1 : (R.sl.map Slt.T).length = R.sl.length := List.length_map ..
 have hl2 : (R.cs.map (Ct.T false)).length = R.cs.length := List.length_map ..
 have hl3 : (R.lg.map tT).length = R.lg.length := List.length_map ..
 have hl4 : (R.ch.map Msg.T).length = R.ch.length := List.length_map ..
 refine Pure.of_ev (st := []) Tryz.func27 rfl kb ?_
 refine A2 ?_ (by exact Q0) (by exact Q2)
 refine B3 (s49 R.nd) rfl j2 ?_ ?_ <;> intro h1_2
 ·refine A2 ?_ (by exact Q0) (by exact Q2)
  refine A2 ?_ (by exact Q0) (by exact Q2)
  refine sd ⟨by exact F5, by exact F5⟩ ?_
  refine B3 (s50 _ _ _) rfl j2 ?_ ?_ <;> intro h1_10
  ·refine A2 ?_ (by exact Q0) (by exact Q2)
   refine B3 (s50 _ _ _) rfl j2 ?_ ?_ <;> intro h1_16
   ·refine A2 ?_ (by exact Q0) (by exact Q2)
    refine br ?_ ?_ <;> intro h1_23
    ·refine B0 rfl ?_; rintro ⟨⟨q1, q2, q3, q4, q5, q6, q7⟩, _⟩; first | exact h1_2 q1 | exact h1_10 q2 | exact h1_16 q3 | omega
    ·refine A2 ?_ (by exact Q0) (by exact Q2)
     refine br ?_ ?_ <;> intro h1_29
     ·refine B0 rfl ?_; rintro ⟨⟨q1, q2, q3, q4, q5, q6, q7⟩, _⟩; first | exact h1_2 q1 | exact h1_10 q2 | exact h1_16 q3 | omega
     ·refine A2 ?_ (by exact Q0) (by exact Q2)
      refine br ?_ ?_ <;> intro h1_35
      ·refine B0 rfl ?_; rintro ⟨⟨q1, q2, q3, q4, q5, q6, q7⟩, _⟩; first | exact h1_2 q1 | exact h1_10 q2 | exact h1_16 q3 | omega
      ·refine A2 ?_ (by exact Q0) (by exact Q2)
       refine A2 ?_ (by exact Q0) (by exact Q2)
       refine br ?_ ?_ <;> intro h1_43
       ·refine B0 rfl ?_; rintro ⟨⟨q1, q2, q3, q4, q5, q6, q7⟩, _⟩; first | exact h1_2 q1 | exact h1_10 q2 | exact h1_16 q3 | omega
       ·refine B2 (fun (a : Nat × Nat) => [.unk, .ptr 0 0 0, .unk, .int .i64 a.1]) (fun (a : Nat × Nat) => hp [(0, ⟨[[.int .i64 R.id, .int .i64 R.nd, .int .i64 R.vw, .bool R.ac, .sl false false (R.sl.map Slt.T), .sl false false (R.cs.map (Ct.T false)), .sl false false (R.lg.map tT), .sl false false (R.ch.map Msg.T)]], 8, 54⟩)]) (fun (a : Nat × Nat) => a.2) (fun (a : Nat × Nat) => a.1 ≤ R.sl.length ∧ 1 ≤ a.2 ∧ (∀ j, j < a.1 → slOK R.nd R.vw ((j : Int) + 1) (R.sl.getD j Slt0)) ∧ ∀ j, j < a.1 → ceOK R.nd R.vw ((j : Int) + 1) (R.cs.getD j Ct0)) (fun (a : Nat × Nat) => R.sl.length - a.1) (0, 1) ?_ ?_ ?_ ?_ ?_
        ·exact ⟨Nat.zero_le _, Nat.le_refl _, D8, D8⟩
        ·(repeat first | exact LE.nil _ | refine LE.unk _ _ ?_ | refine LE.eq _ _ _ rfl ?_)
        ·(repeat first | exact A4 | (refine A5 ?_ ?_; exact E3))
        ·exact Nat.le_refl _
        intro ⟨i, m⟩ hI ih
        obtain ⟨u0, u1, u2, u3⟩ := hI
        dsimp only at u0 u1 u2 u3 ⊢
        have hsq : (R.cs.getD i Ct0).sq = ((R.cs.getD i Ct0).ps.getD 0 Msg0).sq := rfl
        have hvw : (R.cs.getD i Ct0).vw = ((R.cs.getD i Ct0).ps.getD 0 Msg0).vw := rfl
        have hl5 : ((R.cs.getD i Ct0).ps.map Msg.T).length = (R.cs.getD i Ct0).ps.length := List.length_map ..
        refine A6 (st := []) ?_
        refine br ?_ ?_ <;> intro h4_1
        ·refine A2 ?_ (by exact Q0) (by exact Q2)
         (refine A9 (C4 (by first | rfl | assumption | exact Q7) rfl ?_))
         (apply est (u := .agg [.str _, _, _, .bool _, .bool _]) j3; exact Q0; exact Q2; exact j4; exact kb; rfl)
         refine A2 ?_ (by exact Q0) (by exact Q2)
         refine br ?_ ?_ <;> intro h7_3
         ·refine B0 rfl ?_; rintro ⟨_, q2, _⟩; obtain ⟨e1, e2, e3⟩ := q2 i (by omega); first | exact h7_23 e2 | exact h7_32 e3 | exact h7_13 (e1 h7_7).2 | (have := e1 (fun e => by rw [e] at h7_3; exact absurd h7_3 (by decide)); omega)
         ·refine A2 ?_ (by exact Q0) (by exact Q2)
          refine br ?_ ?_ <;> intro h7_7
          ·refine A2 ?_ (by exact Q0) (by exact Q2)
           refine A2 ?_ (by exact Q0) (by exact Q2)
           refine B3 (r74 R.nd h1_2 (R.sl.getD i Slt0).bd (by omega)) rfl j2 ?_ ?_ <;> intro h7_13
           ·(apply C7 (vs := [.int _ _, .int _ _, .int _ _, .bool _, _, _, _, _]) j2; exact Q0; exact Q2; rfl; exact kb; rfl)
            refine A2 ?_ (by exact Q0) (by exact Q2)
            refine sd ⟨by exact F5, by exact F5⟩ ?_
            refine B3 (r75 R h1_2 (R.sl.getD i Slt0).pr 2 ((i : Int) + 1) (hS1 i (by omega))) rfl j2 ?_ ?_ <;> intro h7_23
            ·(apply C7 (vs := [.int _ _, .int _ _, .int _ _, .bool _, _, _, _, _]) j2; exact Q0; exact Q2; rfl; exact kb; rfl)
             refine A2 ?_ (by exact Q0) (by exact Q2)
             refine sd ⟨by exact F5, by exact F5⟩ ?_
             refine B3 (r75 R h1_2 (R.sl.getD i Slt0).cm 3 ((i : Int) + 1) (hS2 i (by omega))) rfl j2 ?_ ?_ <;> intro h7_32
             ·refine A2 ?_ (by exact Q0) (by exact Q2)
              (refine A9 (C4 (by first | rfl | assumption | exact Q7) rfl ?_))
              (apply est (u := .agg [.str _, _]) j3; exact Q0; exact Q2; exact j4; exact kb; rfl)
              refine A2 ?_ (by exact Q0) (by exact Q2)
              refine br ?_ ?_ <;> intro h10_3
              ·refine A2 ?_ (by exact Q0) (by exact Q2)
               refine br ?_ ?_ <;> intro h11_2
               ·refine B0 rfl ?_; rintro ⟨_, _, q3, _⟩; have := q3 i (by omega) (fun q => h11_2 q.1); have := hce ⟨h1_2, this.1⟩; omega
               ·refine sd ⟨by exact F5, by exact F5⟩ ?_
                exact C6 (ih (i + 1, m + 1 + 1) ⟨by dsimp only; omega, by dsimp only; omega, D0 u2 ⟨fun q => by first | exact absurd q h7_7 | exact ⟨by omega, h7_13⟩, h7_23, h7_32⟩, D0 u3 (fun q => by first | exact ⟨h13_3, by omega, by omega⟩ | exact absurd ⟨Classical.not_not.1 h11_2, by omega⟩ q)⟩ (by dsimp only; omega)) (by (repeat first | exact LE.nil _ | refine LE.unk _ _ ?_ | refine LE.eq _ _ _ rfl ?_)) (by (repeat first | exact A4 | (refine A5 ?_ ?_; exact E3))) (Nat.le_refl _)
              ·have hq0 := ctP h1_2 (c := R.cs.getD i Ct0)
               refine A2 ?_ (by exact Q0) (by exact Q2)
               (apply C7 (vs := [.str _, _]) j2; exact Q0; exact Q2; rfl; exact kb; rfl)
               refine B3 (r76 R.nd h1_2 (R.cs.getD i Ct0) false) rfl j2 ?_ ?_ <;> intro h13_3
               ·refine A2 ?_ (by exact Q0) (by exact Q2)
                (refine A9 (C4 (by first | rfl | assumption | exact Q7) rfl ?_))
                refine sd ⟨by exact F5, by exact F5⟩ ?_
                refine br ?_ ?_ <;> intro h13_13
                ·refine B0 rfl ?_; rintro ⟨_, _, q3, _⟩; obtain ⟨e1, e2, e3⟩ := q3 i (by omega) (fun q => absurd q.2 (by omega)); first | exact h13_3 e1 | omega
                ·refine A2 ?_ (by exact Q0) (by exact Q2)
                 (refine A9 (C4 (by first | rfl | assumption | exact Q7) rfl ?_))
                 refine A2 ?_ (by exact Q0) (by exact Q2)
                 refine br ?_ ?_ <;> intro h13_23
                 ·refine B0 rfl ?_; rintro ⟨_, _, q3, _⟩; obtain ⟨e1, e2, e3⟩ := q3 i (by omega) (fun q => absurd q.2 (by omega)); first | exact h13_3 e1 | omega
                 ·refine sd ⟨by exact F5, by exact F5⟩ ?_
                  exact C6 (ih (i + 1, m + 1 + 1) ⟨by dsimp only; omega, by dsimp only; omega, D0 u2 ⟨fun q => by first | exact absurd q h7_7 | exact ⟨by omega, h7_13⟩, h7_23, h7_32⟩, D0 u3 (fun q => by first | exact ⟨h13_3, by omega, by omega⟩ | exact absurd ⟨Classical.not_not.1 h11_2, by omega⟩ q)⟩ (by dsimp only; omega)) (by (repeat first | exact LE.nil _ | refine LE.unk _ _ ?_ | refine LE.eq _ _ _ rfl ?_)) (by (repeat first | exact A4 | (refine A5 ?_ ?_; exact E3))) (Nat.le_refl _)
               ·refine B0 rfl ?_; rintro ⟨_, _, q3, _⟩; obtain ⟨e1, e2, e3⟩ := q3 i (by omega) (fun q => absurd q.2 (by omega)); first | exact h13_3 e1 | omega
             ·refine B0 rfl ?_; rintro ⟨_, q2, _⟩; obtain ⟨e1, e2, e3⟩ := q2 i (by omega); first | exact h7_23 e2 | exact h7_32 e3 | exact h7_13 (e1 h7_7).2 | (have := e1 (fun e => by rw [e] at h7_3; exact absurd h7_3 (by decide)); omega)
            ·refine B0 rfl ?_; rintro ⟨_, q2, _⟩; obtain ⟨e1, e2, e3⟩ := q2 i (by omega); first | exact h7_23 e2 | exact h7_32 e3 | exact h7_13 (e1 h7_7).2 | (have := e1 (fun e => by rw [e] at h7_3; exact absurd h7_3 (by decide)); omega)
           ·refine B0 rfl ?_; rintro ⟨_, q2, _⟩; obtain ⟨e1, e2, e3⟩ := q2 i (by omega); first | exact h7_23 e2 | exact h7_32 e3 | exact h7_13 (e1 h7_7).2 | (have := e1 (fun e => by rw [e] at h7_3; exact absurd h7_3 (by decide)); omega)
          ·(apply C7 (vs := [.int _ _, .int _ _, .int _ _, .bool _, _, _, _, _]) j2; exact Q0; exact Q2; rfl; exact kb; rfl)
           refine A2 ?_ (by exact Q0) (by exact Q2)
           refine sd ⟨by exact F5, by exact F5⟩ ?_
           refine B3 (r75 R h1_2 (R.sl.getD i Slt0).pr 2 ((i : Int) + 1) (hS1 i (by omega))) rfl j2 ?_ ?_ <;> intro h7_23
           ·(apply C7 (vs := [.int _ _, .int _ _, .int _ _, .bool _, _, _, _, _]) j2; exact Q0; exact Q2; rfl; exact kb; rfl)
            refine A2 ?_ (by exact Q0) (by exact Q2)
            refine sd ⟨by exact F5, by exact F5⟩ ?_
            refine B3 (r75 R h1_2 (R.sl.getD i Slt0).cm 3 ((i : Int) + 1) (hS2 i (by omega))) rfl j2 ?_ ?_ <;> intro h7_32
            ·refine A2 ?_ (by exact Q0) (by exact Q2)
             (refine A9 (C4 (by first | rfl | assumption | exact Q7) rfl ?_))
             (apply est (u := .agg [.str _, _]) j3; exact Q0; exact Q2; exact j4; exact kb; rfl)
             refine A2 ?_ (by exact Q0) (by exact Q2)
             refine br ?_ ?_ <;> intro h10_3
             ·refine A2 ?_ (by exact Q0) (by exact Q2)
              refine br ?_ ?_ <;> intro h11_2
              ·refine B0 rfl ?_; rintro ⟨_, _, q3, _⟩; have := q3 i (by omega) (fun q => h11_2 q.1); have := hce ⟨h1_2, this.1⟩; omega
              ·refine sd ⟨by exact F5, by exact F5⟩ ?_
               exact C6 (ih (i + 1, m + 1 + 1) ⟨by dsimp only; omega, by dsimp only; omega, D0 u2 ⟨fun q => by first | exact absurd q h7_7 | exact ⟨by omega, h7_13⟩, h7_23, h7_32⟩, D0 u3 (fun q => by first | exact ⟨h13_3, by omega, by omega⟩ | exact absurd ⟨Classical.not_not.1 h11_2, by omega⟩ q)⟩ (by dsimp only; omega)) (by (repeat first | exact LE.nil _ | refine LE.unk _ _ ?_ | refine LE.eq _ _ _ rfl ?_)) (by (repeat first | exact A4 | (refine A5 ?_ ?_; exact E3))) (Nat.le_refl _)
             ·have hq0 := ctP h1_2 (c := R.cs.getD i Ct0)
              refine A2 ?_ (by exact Q0) (by exact Q2)
              (apply C7 (vs := [.str _, _]) j2; exact Q0; exact Q2; rfl; exact kb; rfl)
              refine B3 (r76 R.nd h1_2 (R.cs.getD i Ct0) false) rfl j2 ?_ ?_ <;> intro h13_3
              ·refine A2 ?_ (by exact Q0) (by exact Q2)
               (refine A9 (C4 (by first | rfl | assumption | exact Q7) rfl ?_))
               refine sd ⟨by exact F5, by exact F5⟩ ?_
               refine br ?_ ?_ <;> intro h13_13
               ·refine B0 rfl ?_; rintro ⟨_, _, q3, _⟩; obtain ⟨e1, e2, e3⟩ := q3 i (by omega) (fun q => absurd q.2 (by omega)); first | exact h13_3 e1 | omega
               ·refine A2 ?_ (by exact Q0) (by exact Q2)
                (refine A9 (C4 (by first | rfl | assumption | exact Q7) rfl ?_))
                refine A2 ?_ (by exact Q0) (by exact Q2)
                refine br ?_ ?_ <;> intro h13_23
                ·refine B0 rfl ?_; rintro ⟨_, _, q3, _⟩; obtain ⟨e1, e2, e3⟩ := q3 i (by omega) (fun q => absurd q.2 (by omega)); first | exact h13_3 e1 | omega
                ·refine sd ⟨by exact F5, by exact F5⟩ ?_
                 exact C6 (ih (i + 1, m + 1 + 1) ⟨by dsimp only; omega, by dsimp only; omega, D0 u2 ⟨fun q => by first | exact absurd q h7_7 | exact ⟨by omega, h7_13⟩, h7_23, h7_32⟩, D0 u3 (fun q => by first | exact ⟨h13_3, by omega, by omega⟩ | exact absurd ⟨Classical.not_not.1 h11_2, by omega⟩ q)⟩ (by dsimp only; omega)) (by (repeat first | exact LE.nil _ | refine LE.unk _ _ ?_ | refine LE.eq _ _ _ rfl ?_)) (by (repeat first | exact A4 | (refine A5 ?_ ?_; exact E3))) (Nat.le_refl _)
              ·refine B0 rfl ?_; rintro ⟨_, _, q3, _⟩; obtain ⟨e1, e2, e3⟩ := q3 i (by omega) (fun q => absurd q.2 (by omega)); first | exact h13_3 e1 | omega
            ·refine B0 rfl ?_; rintro ⟨_, q2, _⟩; obtain ⟨e1, e2, e3⟩ := q2 i (by omega); first | exact h7_23 e2 | exact h7_32 e3 | exact h7_13 (e1 h7_7).2 | (have := e1 (fun e => by rw [e] at h7_3; exact absurd h7_3 (by decide)); omega)
           ·refine B0 rfl ?_; rintro ⟨_, q2, _⟩; obtain ⟨e1, e2, e3⟩ := q2 i (by omega); first | exact h7_23 e2 | exact h7_32 e3 | exact h7_13 (e1 h7_7).2 | (have := e1 (fun e => by rw [e] at h7_3; exact absurd h7_3 (by decide)); omega)
        ·refine B2 (fun (a : Nat) => [.unk, .ptr 0 0 0, .unk, .unk, .unk, .unk, .int .i64 a]) (fun (a : Nat) => hp [(0, ⟨[[.int .i64 R.id, .int .i64 R.nd, .int .i64 R.vw, .bool R.ac, .sl false false (R.sl.map Slt.T), .sl false false (R.cs.map (Ct.T false)), .sl false false (R.lg.map tT), .sl false false (R.ch.map Msg.T)]], 8, 54⟩)]) (fun (a : Nat) => m) (fun (a : Nat) => a ≤ R.lg.length ∧ ∀ j, j < a → lgOK R.nd (R.lg.getD j ⟨#[]⟩)) (fun (a : Nat) => R.lg.length - a) 0 ?_ ?_ ?_ ?_ ?_
         ·exact ⟨Nat.zero_le _, D8⟩
         ·(repeat first | exact LE.nil _ | refine LE.unk _ _ ?_ | refine LE.eq _ _ _ rfl ?_)
         ·(repeat first | exact A4 | (refine A5 ?_ ?_; exact E3))
         ·exact Nat.le_refl _
         intro i3 hI ih
         obtain ⟨w0, w2⟩ := hI
         have hzz : (R.lg.getD ((i3 : Int)).toNat (⟨#[]⟩ : ByteArray)).size = (R.lg.getD i3 (⟨#[]⟩ : ByteArray)).size := rfl
         refine A6 (st := []) ?_
         refine A2 ?_ (by exact Q0) (by exact Q2)
         refine br ?_ ?_ <;> intro h16_4
         ·refine A2 ?_ (by exact Q0) (by exact Q2)
          (refine A9 (C4 (by first | rfl | assumption | exact Q7) rfl ?_))
          refine br ?_ ?_ <;> intro h18_6
          ·refine B0 rfl ?_; rintro ⟨_, _, _, q4, _⟩; obtain ⟨e1, e2⟩ := q4 i3 (by omega); first | omega | exact h18_15 e2
          ·refine A2 ?_ (by exact Q0) (by exact Q2)
           refine A2 ?_ (by exact Q0) (by exact Q2)
           (refine A9 (C4 (by first | rfl | assumption | exact Q7) rfl ?_))
           refine B3 (r74 R.nd h1_2 (R.lg.getD i3 ⟨#[]⟩) (by omega)) rfl j2 ?_ ?_ <;> intro h18_15
           ·refine sd ⟨by exact F5, by exact F5⟩ ?_
            exact C6 (ih (i3 + 1) ⟨by omega, D0 w2 ⟨by omega, h18_15⟩⟩ (by omega)) (by (repeat first | exact LE.nil _ | refine LE.unk _ _ ?_ | refine LE.eq _ _ _ rfl ?_)) (by (repeat first | exact A4 | (refine A5 ?_ ?_; exact E3))) (Nat.le_refl _)
           ·refine B0 rfl ?_; rintro ⟨_, _, _, q4, _⟩; obtain ⟨e1, e2⟩ := q4 i3 (by omega); first | omega | exact h18_15 e2
         ·refine B2 (fun (a : Nat × Nat) => [.unk, .ptr 0 0 0, .unk, .unk, .unk, .unk, .unk, .int .i64 a.1]) (fun (a : Nat × Nat) => hp [(0, ⟨[[.int .i64 R.id, .int .i64 R.nd, .int .i64 R.vw, .bool R.ac, .sl false false (R.sl.map Slt.T), .sl false false (R.cs.map (Ct.T false)), .sl false false (R.lg.map tT), .sl false false (R.ch.map Msg.T)]], 8, 54⟩)]) (fun (a : Nat × Nat) => a.2) (fun (a : Nat × Nat) => a.1 ≤ R.ch.length ∧ 1 ≤ a.2 ∧ ∀ j, j < a.1 → chOK R.nd R.vw R.ch j) (fun (a : Nat × Nat) => R.ch.length - a.1) (0, m) ?_ ?_ ?_ ?_ ?_
          ·exact ⟨Nat.zero_le _, u1, D8⟩
          ·(repeat first | exact LE.nil _ | refine LE.unk _ _ ?_ | refine LE.eq _ _ _ rfl ?_)
          ·(repeat first | exact A4 | (refine A5 ?_ ?_; exact E3))
          ·exact Nat.le_refl _
          intro ⟨i4, m4⟩ hI ih
          obtain ⟨x0, x1, x2⟩ := hI
          dsimp only at x0 x1 x2 ⊢
          refine A6 (st := []) ?_
          refine A2 ?_ (by exact Q0) (by exact Q2)
          refine br ?_ ?_ <;> intro h21_4
          ·refine A2 ?_ (by exact Q0) (by exact Q2)
           (refine A9 (C4 (by first | rfl | assumption | exact Q7) rfl ?_))
           (apply est (u := .agg [.int _ _, .int _ _, .int _ _, .int _ _, .str _, .str _, .str _]) j3; exact Q0; exact Q2; exact j4; exact kb; rfl)
           refine A2 ?_ (by exact Q0) (by exact Q2)
           (apply C7 (vs := [.int _ _, .int _ _, .int _ _, .int _ _, .str _, .str _, .str _]) j2; exact Q0; exact Q2; rfl; exact kb; rfl)
           refine C1 (r77 R.nd h1_2 (R.ch.getD i4 Msg0)) rfl rfl rfl ?_
           refine brB ?_ ?_ <;> intro h24_6
           ·refine A2 ?_ (by exact Q0) (by exact Q2)
            refine A2 ?_ (by exact Q0) (by exact Q2)
            refine br ?_ ?_ <;> intro h25_7
            ·refine B0 rfl ?_; rintro ⟨_, _, _, _, q5⟩; obtain ⟨e1, e2, e3, e4⟩ := q5 i4 (by omega); first | exact of_decide_eq_false h24_6 e1 | omega | (have := e4 (by omega); omega)
            ·refine A2 ?_ (by exact Q0) (by exact Q2)
             refine A2 ?_ (by exact Q0) (by exact Q2)
             (refine A9 (C4 (by first | rfl | assumption | exact Q7) rfl ?_))
             refine br ?_ ?_ <;> intro h25_17
             ·refine B0 rfl ?_; rintro ⟨_, _, _, _, q5⟩; obtain ⟨e1, e2, e3, e4⟩ := q5 i4 (by omega); first | exact of_decide_eq_false h24_6 e1 | omega | (have := e4 (by omega); omega)
             ·refine br ?_ ?_ <;> intro h25_21
              ·refine A2 ?_ (by exact Q0) (by exact Q2)
               refine sd ⟨by exact F5, by exact F5⟩ ?_
               (refine A9 (C4 (by first | rfl | assumption | exact Q7) rfl ?_))
               refine A2 ?_ (by exact Q0) (by exact Q2)
               refine br ?_ ?_ <;> intro h25_32
               ·refine B0 rfl ?_; rintro ⟨_, _, _, _, q5⟩; obtain ⟨e1, e2, e3, e4⟩ := q5 i4 (by omega); first | exact of_decide_eq_false h24_6 e1 | omega | (have := e4 (by omega); omega)
               ·refine sd ⟨by exact F5, by exact F5⟩ ?_
                exact C6 (ih (i4 + 1, m4 + 1) ⟨by dsimp only; omega, by dsimp only; omega, D0 x2 ⟨of_decide_eq_true h24_6, by omega, by omega, fun _ => by omega⟩⟩ (by dsimp only; omega)) (by (repeat first | exact LE.nil _ | refine LE.unk _ _ ?_ | refine LE.eq _ _ _ rfl ?_)) (by (repeat first | exact A4 | (refine A5 ?_ ?_; exact E3))) (Nat.le_refl _)
              ·refine sd ⟨by exact F5, by exact F5⟩ ?_
               exact C6 (ih (i4 + 1, m4 + 1) ⟨by dsimp only; omega, by dsimp only; omega, D0 x2 ⟨of_decide_eq_true h24_6, by omega, by omega, fun _ => by omega⟩⟩ (by dsimp only; omega)) (by (repeat first | exact LE.nil _ | refine LE.unk _ _ ?_ | refine LE.eq _ _ _ rfl ?_)) (by (repeat first | exact A4 | (refine A5 ?_ ?_; exact E3))) (Nat.le_refl _)
           ·refine B0 rfl ?_; rintro ⟨_, _, _, _, q5⟩; obtain ⟨e1, e2, e3, e4⟩ := q5 i4 (by omega); first | exact of_decide_eq_false h24_6 e1 | omega | (have := e4 (by omega); omega)
          ·refine B8 rfl ?_; exact ⟨⟨h1_2, h1_10, h1_16, by omega, by omega, by omega, by omega⟩, fun j hj => u2 j (by omega), fun j hj => u3 j (by omega), fun j hj => w2 j (by omega), fun j hj => x2 j (by omega)⟩
   ·refine B0 rfl ?_; rintro ⟨⟨q1, q2, q3, q4, q5, q6, q7⟩, _⟩; first | exact h1_2 q1 | exact h1_10 q2 | exact h1_16 q3 | omega
  ·refine B0 rfl ?_; rintro ⟨⟨q1, q2, q3, q4, q5, q6, q7⟩, _⟩; first | exact h1_2 q1 | exact h1_10 q2 | exact h1_16 q3 | omega
 ·refine B0 rfl ?_; rintro ⟨⟨q1, q2, q3, q4, q5, q6, q7⟩, _⟩; first | exact h1_2 q1 | exact h1_10 q2 | exact h1_16 q3 | omega
end Go.Proofs.YteifdelnahccjaaGreatDoor
