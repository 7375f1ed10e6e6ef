import Derived.Test.YteifdelnahccjaaGreatDoorF7
namespace Go.Proofs.YteifdelnahccjaaGreatDoor
open Go.V
set_option linter.unusedVariables false
set_option linter.unusedSimpArgs false
set_option maxRecDepth 20000
set_option maxHeartbeats 4000000
noncomputable def pix {α : Type} (P : α → Prop) : List α → Nat → Int
 | [], _ => -1
 | s :: r, k => haveI := Classical.propDecidable (P s); if P s then k else pix P r (k + 1)
theorem pix_y {α : Type} {P : α → Prop} {d : α} {L : List α} {i : Nat} (h : i < L.length) (hp : P (L.getD i d)) : pix P (L.drop i) i = (i : Int) := by
 rw [show L.getD i d = L[i] by simp [h]] at hp
 rw [List.drop_eq_getElem_cons h]
 unfold pix
 rw [if_pos hp]
theorem pix_n {α : Type} {P : α → Prop} {d : α} {L : List α} {i : Nat} (h : i < L.length) (hp : ¬ P (L.getD i d)) : pix P (L.drop i) i = pix P (L.drop (i + 1)) (i + 1) := by
 rw [show L.getD i d = L[i] by simp [h]] at hp
 conv => lhs; rw [List.drop_eq_getElem_cons h]
 conv => lhs; unfold pix
 rw [if_neg hp]
theorem pix_end {α : Type} {P : α → Prop} {L : List α} {i : Nat} (h : L.length ≤ i) : pix P (L.drop i) i = -1 := by rw [List.drop_eq_nil_of_le h]; rfl
theorem X7 {α : Type} {P : α → Prop} : ∀ (L : List α) (k : Nat), 0 ≤ pix P L k ↔ ∃ x ∈ L, P x
 | [], k => ⟨fun h => by have q : (0 : Int) ≤ -1 := h; omega, fun ⟨x, hx, _⟩ => by cases hx⟩
 | s :: r, k => by
  unfold pix
  by_cases c : P s
  ·rw [if_pos c]; exact ⟨fun _ => ⟨s, List.mem_cons_self .., c⟩, fun _ => by omega⟩
  ·rw [if_neg c, X7 r (k + 1)]
   exact ⟨fun ⟨x, hx, h⟩ => ⟨x, List.mem_cons_of_mem _ hx, h⟩, fun ⟨x, hx, h⟩ => by
    rcases List.mem_cons.1 hx with e | e
    ·rw [e] at h; exact absurd h c
    ·exact ⟨x, e, h⟩⟩
noncomputable instance dcEx (L : List Msg) (d : ByteArray) : Decidable (∃ x ∈ L, x.dg ≠ d) := Classical.propDecidable _
def arS (n kd vw sq : Int) (L : List Msg) (i : Nat) : Prop := (L.getD i Msg0).kd = kd ∧ (L.getD i Msg0).vw = vw ∧ (L.getD i Msg0).sq = sq ∧ (nodes n ∧ sgd mk bare n (L.getD i Msg0)) ∧ (0 < i → (L.getD (i - 1) Msg0).fr < (L.getD i Msg0).fr)
noncomputable instance dcAr (n kd vw sq : Int) (L : List Msg) : Decidable (∀ i, i < L.length → arS n kd vw sq L i) := Classical.propDecidable _
theorem s140 (n : Int) (hn : nodes n) : Pure En 140 [.one (.int .i64 n)] [.one (.int .i64 (quo n))] := by
 rcases hn with rfl | rfl | rfl
 all_goals
  refine Pure.of_ev (st := []) Tryz.func140 rfl kb ?_
  refine B7 ?_
  refine C2 ?_
  refine B7 ?_
  refine B7 ?_
  exact E4 rfl rfl
theorem s84 (c : Ct) (b : Bool) (hc : 0 < c.ps.length) : Pure En 84 [.agg (c.T b)] [.one (.int .i64 c.sq)] := by
 have hl : (c.ps.map Msg.T).length = c.ps.length := List.length_map ..
 refine Pure.of_ev (st := []) Tryz.func84 rfl kb ?_
 refine A4 ?_
 (refine C2 (D7 (by first | rfl | assumption | (exact B0 Msg.T Msg0 (k := 0) hc)) rfl ?_))
 exact E4 rfl rfl
theorem s85 (c : Ct) (b : Bool) (hc : 0 < c.ps.length) : Pure En 85 [.agg (c.T b)] [.one (.int .i64 c.vw)] := by
 have hl : (c.ps.map Msg.T).length = c.ps.length := List.length_map ..
 refine Pure.of_ev (st := []) Tryz.func85 rfl kb ?_
 refine A4 ?_
 (refine C2 (D7 (by first | rfl | assumption | (exact B0 Msg.T Msg0 (k := 0) hc)) rfl ?_))
 exact E4 rfl rfl
theorem o160 (m : Msg) (d : ByteArray) {id : Nat} {h : Heap} {n : Nat} (hid : id < n) (hh : h id = some ⟨[[.str d]], 1, 9⟩) : V.Open En 160 [.agg m.V, .ptr id 0 0] h n (.bool (decide (m.dg ≠ d))) [] (n + 1) := by
 refine V.Open.of_ev (st := []) Tryz.func160 rfl kb ?_
 refine A4 ?_
 refine A4 ?_
 refine br ?_ ?_ <;> intro h1_3
 ·first
   | (rw [decide_eq_true (by assumption)]; exact G9 rfl rfl (leWr (fun j hj => absurd hj List.not_mem_nil) (fun j hj hn => by simp (disch := omega) only [↓app0, ↓appC, ↓updS, ↓updN])) (Nat.le_refl _))
   | (rw [decide_eq_false (by assumption)]; exact G9 rfl rfl (leWr (fun j hj => absurd hj List.not_mem_nil) (fun j hj hn => by simp (disch := omega) only [↓app0, ↓appC, ↓updS, ↓updN])) (Nat.le_refl _))
 ·first
   | (rw [decide_eq_true (by assumption)]; exact G9 rfl rfl (leWr (fun j hj => absurd hj List.not_mem_nil) (fun j hj hn => by simp (disch := omega) only [↓app0, ↓appC, ↓updS, ↓updN])) (Nat.le_refl _))
   | (rw [decide_eq_false (by assumption)]; exact G9 rfl rfl (leWr (fun j hj => absurd hj List.not_mem_nil) (fun j hj hn => by simp (disch := omega) only [↓app0, ↓appC, ↓updS, ↓updN])) (Nat.le_refl _))
theorem o170 (fr b : Bool) (L : List Msg) (d : ByteArray) (hL : L.length ≤ 1048576) {id : Nat} {h : Heap} {n : Nat} (hid : id < n) (hh : h id = some ⟨[[.str d]], 1, 9⟩) : V.Open En 170 [.sl fr b (L.map Msg.T), .clo 160 [.ptr id 0 0]] h n (.int .i64 (pix (fun x : Msg => x.dg ≠ d) L 0)) [] (n + L.length) := by
 have hl : (L.map Msg.T).length = L.length := List.length_map ..
 refine V.Open.of_ev (st := []) Tryz.func170 rfl kb ?_
 refine A9 (fun (a : Nat × Nat) => [.sl fr b (L.map Msg.T), .clo 160 [.ptr id 0 0], .unk, .unk, .unk, .unk, .unk, .int .i64 (L.map Msg.T).length, .int .i64 a.1]) (fun (a : Nat × Nat) => h) (fun (a : Nat × Nat) => a.2) (fun (a : Nat × Nat) => a.1 ≤ L.length ∧ pix (fun x : Msg => x.dg ≠ d) (L.drop a.1) a.1 = pix (fun x : Msg => x.dg ≠ d) L 0 ∧ n + a.1 = a.2) (fun (a : Nat × Nat) => L.length - a.1) (0, n) ?_ ?_ ?_ ?_ ?_
 ·exact ⟨Nat.zero_le _, rfl, rfl⟩
 ·(repeat first | exact LE.nil _ | refine LE.unk _ _ ?_ | refine LE.eq _ _ _ rfl ?_)
 ·exact LessH.refl _
 ·exact Nat.le_refl _
 intro ⟨i, m⟩ hI ih
 obtain ⟨q0, q1, q2⟩ := hI
 dsimp only at q0 q1 q2 ⊢
 refine A7 (st := []) ?_
 refine br ?_ ?_ <;> intro h2_0
 ·(refine C2 (D7 (by first | rfl | assumption | (exact B0 Msg.T Msg0 (k := i) (by omega))) rfl ?_))
  refine eopB (o160 (L.getD i Msg0) d (n := m) (by omega) hh) rfl j2 ?_ ?_
  all_goals intro h4_5
  ·rw [← q1, pix_y (d := Msg0) (L := L) (i := i) (by omega) (of_decide_eq_true h4_5)]; exact G9 rfl rfl (fun _ _ _ e => e) (by omega)
  ·refine B7 ?_
   have e1 := (pix_n (P := fun x : Msg => x.dg ≠ d) (d := Msg0) (L := L) (i := i) (by omega) (of_decide_eq_false h4_5)).symm.trans q1
   exact C6 (ih (i + 1, m + 1) ⟨by dsimp only; omega, e1, by dsimp only; omega⟩ (by dsimp only; omega)) (by (repeat first | exact LE.nil _ | refine LE.unk _ _ ?_ | refine LE.eq _ _ _ rfl ?_)) (LessH.refl _) (Nat.le_refl _)
 ·rw [← q1, pix_end (L := L) (i := i) (by omega)]; exact G9 rfl rfl (fun _ _ _ e => e) (by omega)
theorem o98 (fr b : Bool) (L : List Msg) (d : ByteArray) (hL : L.length ≤ 1048576) {id : Nat} {h : Heap} {n : Nat} (hid : id < n) (hh : h id = some ⟨[[.str d]], 1, 9⟩) : V.Open En 98 [.sl fr b (L.map Msg.T), .clo 160 [.ptr id 0 0]] h n (.bool (decide (∃ x ∈ L, x.dg ≠ d))) [] (n + L.length) := by
 refine V.Open.of_ev (st := []) Tryz.func98 rfl kb ?_
 refine N3 (o170 fr b L d hL hid hh) rfl rfl rfl ?_
 refine br ?_ ?_ <;> intro h1_3
 ·first
  | (rw [decide_eq_true ((X7 L 0).1 (by omega))]; exact G9 rfl rfl (fun _ _ _ e => e) (Nat.le_refl _))
  | (rw [decide_eq_false (fun q => by have := (X7 (P := fun x : Msg => x.dg ≠ d) L 0).2 q; omega)]; exact G9 rfl rfl (fun _ _ _ e => e) (Nat.le_refl _))
 ·first
  | (rw [decide_eq_true ((X7 L 0).1 (by omega))]; exact G9 rfl rfl (fun _ _ _ e => e) (Nat.le_refl _))
  | (rw [decide_eq_false (fun q => by have := (X7 (P := fun x : Msg => x.dg ≠ d) L 0).2 q; omega)]; exact G9 rfl rfl (fun _ _ _ e => e) (Nat.le_refl _))
theorem s158 (n kd vw sq : Int) (L : List Msg) (b : Bool) (hL : L.length ≤ 1048576) : Pure En 158 [.one (.int .i64 n), .one (.sl b (L.map Msg.T)), .one (.int .i64 kd), .one (.int .i64 vw), .one (.int .i64 sq)] [.one (.bool (decide (∀ i, i < L.length → arS n kd vw sq L i)))] := by
 have hl : (L.map Msg.T).length = L.length := List.length_map ..
 refine Pure.of_ev (st := []) Tryz.func158 rfl kb ?_
 refine A9 (fun (a : Nat × Nat) => [.int .i64 n, .sl false b (L.map Msg.T), .int .i64 kd, .int .i64 vw, .int .i64 sq, .unk, .unk, .unk, .unk, .unk, .unk, .unk, .unk, .sl false b (L.map Msg.T), .int .i64 (L.map Msg.T).length, .int .i64 a.1]) (fun (a : Nat × Nat) => fun _ => none) (fun (a : Nat × Nat) => a.2) (fun (a : Nat × Nat) => a.1 ≤ L.length ∧ ∀ j, j < a.1 → arS n kd vw sq L j) (fun (a : Nat × Nat) => L.length - a.1) ⟨0, 0⟩ ?_ ?_ ?_ ?_ ?_
 ·exact ⟨Nat.zero_le _, S9⟩
 ·(repeat first | exact LE.nil _ | refine LE.unk _ _ ?_ | refine LE.eq _ _ _ rfl ?_)
 ·exact LessH.refl _
 ·exact Nat.le_refl _
 intro ⟨i, m⟩ hI ih
 obtain ⟨q0, q1⟩ := hI
 dsimp only at q0 q1 ⊢
 refine A7 (st := []) ?_
 refine br ?_ ?_ <;> intro h2_0
 ·(refine C2 (D7 (by first | rfl | assumption | (first | exact B0 Msg.T Msg0 (k := i) (by omega) | (have e : ((i : Int) - 1).toNat = i - 1 := (by omega); rw [e]; exact B0 Msg.T Msg0 (k := i - 1) (by omega)))) rfl ?_))
  (apply est (u := .agg [.int _ _, .int _ _, .int _ _, .int _ _, .str _, .str _, .str _]) j3; exact Q0; rfl; exact j4; exact kb; rfl)
  refine A4 ?_
  refine br ?_ ?_ <;> intro h4_3
  ·refine B3 rfl (fun e => ?_); obtain ⟨e1, e2, e3, e4, e5⟩ := e i (by omega); first | omega | exact h4_19 e4 | (have := e5 (by omega); omega)
  ·refine A4 ?_
   refine br ?_ ?_ <;> intro h4_8
   ·refine B3 rfl (fun e => ?_); obtain ⟨e1, e2, e3, e4, e5⟩ := e i (by omega); first | omega | exact h4_19 e4 | (have := e5 (by omega); omega)
   ·refine A4 ?_
    refine br ?_ ?_ <;> intro h4_14
    ·refine B3 rfl (fun e => ?_); obtain ⟨e1, e2, e3, e4, e5⟩ := e i (by omega); first | omega | exact h4_19 e4 | (have := e5 (by omega); omega)
    ·(apply D2 (vs := [.int _ _, .int _ _, .int _ _, .int _ _, .str _, .str _, .str _]) j2; exact Q0; rfl; rfl; exact kb; rfl)
     refine B6 (s55 n (L.getD i Msg0)) rfl j2 ?_ ?_ <;> intro h4_19
     ·refine br ?_ ?_ <;> intro h4_24
      ·refine B7 ?_
       (refine C2 (D7 (by first | rfl | assumption | (first | exact B0 Msg.T Msg0 (k := i) (by omega) | (have e : ((i : Int) - 1).toNat = i - 1 := (by omega); rw [e]; exact B0 Msg.T Msg0 (k := i - 1) (by omega)))) rfl ?_))
       refine A4 ?_
       refine br ?_ ?_ <;> intro h4_34
       ·refine B3 rfl (fun e => ?_); obtain ⟨e1, e2, e3, e4, e5⟩ := e i (by omega); first | omega | exact h4_19 e4 | (have := e5 (by omega); omega)
       ·refine B7 ?_
        exact C6 (ih ⟨i + 1, m + 1⟩ ⟨by dsimp only; omega, U5 q1 ⟨by omega, by omega, by omega, h4_19, fun _ => by omega⟩⟩ (by dsimp only; omega)) (by (repeat first | exact LE.nil _ | refine LE.unk _ _ ?_ | refine LE.eq _ _ _ rfl ?_)) (by (repeat first | exact B8 | (refine C0 ?_ ?_; (first | exact Q0 | fail)))) (Nat.le_refl _)
      ·refine B7 ?_
       exact C6 (ih ⟨i + 1, m + 1⟩ ⟨by dsimp only; omega, U5 q1 ⟨by omega, by omega, by omega, h4_19, fun _ => by omega⟩⟩ (by dsimp only; omega)) (by (repeat first | exact LE.nil _ | refine LE.unk _ _ ?_ | refine LE.eq _ _ _ rfl ?_)) (by (repeat first | exact B8 | (refine C0 ?_ ?_; (first | exact Q0 | fail)))) (Nat.le_refl _)
     ·refine B3 rfl (fun e => ?_); obtain ⟨e1, e2, e3, e4, e5⟩ := e i (by omega); first | omega | exact h4_19 e4 | (have := e5 (by omega); omega)
 ·exact B4 rfl (fun j hj => q1 j (by omega))
open Go.V
set_option linter.unusedVariables false
set_option linter.unusedSimpArgs false
set_option maxRecDepth 20000
set_option maxHeartbeats 4000000
def iV (x : Int) : List V := [.int .i64 x]
theorem rowsI (L : List Int) : rowsV (L.map iT) = L.map iV := by unfold rowsV; rw [List.map_map]; rfl
def tmR (n : Int) (rs : List Rg) (i : Nat) : Prop := ((rs.getD i Rg0).OK ∧ (rs.getD i Rg0).fr < n ∧ (rs.getD i Rg0).mc = rdM (rs.getD i Rg0).fr (rs.getD i Rg0).vl) ∧ (0 < i → (rs.getD (i - 1) Rg0).fr < (rs.getD i Rg0).fr)
noncomputable instance dcTm (n : Int) (rs : List Rg) : Decidable (timeOK rdM n rs) := Classical.propDecidable _
def vlL (rs : List Rg) : Nat → List Int
 | 0 => []
 | i + 1 => vlL rs i ++ [(rs.getD i Rg0).vl]
theorem P3 (rs : List Rg) : ∀ i, (vlL rs i).length = i
 | 0 => rfl
 | i + 1 => by show (vlL rs i ++ [_]).length = _; rw [List.length_append, P3 rs i]; rfl
theorem vlL_tk {r : List Rg} : ∀ {i : Nat}, i ≤ r.length → vlL r i = (r.take i).map Rg.vl
 | 0, _ => rfl
 | i + 1, h => by
  show vlL r i ++ [(r.getD i Rg0).vl] = _
  rw [vlL_tk (by omega), List.take_succ_eq_append_getElem (by omega), List.map_append, show r.getD i Rg0 = r[i] by simp [show i < r.length by omega]]; rfl
theorem vlL_all (r : List Rg) : vlL r r.length = r.map Rg.vl := by rw [vlL_tk (Nat.le_refl _), List.take_length]
noncomputable def tmX (n : Int) (rs : List Rg) : Int := if timeOK rdM n rs then Tryz.med (rs.map Rg.vl) else 0
theorem K5 {n : Int} (h : nodes n) : 1 ≤ quo n ∧ quo n ≤ 5 := by
 rcases quo_v h with h | h | h <;> omega
structure TS where
 i : Nat
 o : V
 b : Nat
 m : Nat
 g : Heap
structure TI (n : Int) (rs : List Rg) (a : TS) : Prop where
 il : a.i ≤ rs.length
 out : LsOK iV 1 3 0 (vlL rs a.i) a.o a.b a.m a.g
 ok : ∀ j, j < a.i → tmR n rs j
theorem s229 (n : Int) (hn : nodes n) (rs : List Rg) (b : Bool) : Pure En 229 [.one (.int .i64 n), .one (.sl b (rs.map Rg.T))] [.one (.int .i64 (tmX n rs)), .one (.bool (decide (timeOK rdM n rs)))] := by
 have hl : (rs.map Rg.T).length = rs.length := List.length_map ..
 have hq := K5 hn
 refine Pure.of_ev (st := [10]) Tryz.func229 rfl kb ?_
 refine C8 (s140 n hn) rfl rfl rfl ?_
 refine br ?_ ?_ <;> intro h1_4
 ·have hno : ¬ timeOK rdM n rs := fun e => by have := e.1; omega
  rw [show tmX n rs = 0 from if_neg hno, decide_eq_false hno]
  exact E4 rfl rfl
 ·refine A9 (fun (a : TS) => [.int .i64 n, .sl false b (rs.map Rg.T), .unk, .unk, .unk, .unk, a.o, .unk, .unk, .unk, .unk, .unk, .unk, .unk, .sl false b (rs.map Rg.T), .int .i64 (rs.map Rg.T).length, .int .i64 a.i]) (fun (a : TS) => a.g) (fun (a : TS) => a.m) (fun (a : TS) => TI n rs a) (fun (a : TS) => rs.length - a.i) ⟨0, .nsl, 0, 0, fun _ => none⟩ ?_ ?_ ?_ ?_ ?_
  ·exact ⟨Nat.zero_le _, .inl ⟨rfl, rfl⟩, S9⟩
  ·(repeat first | exact LE.nil _ | refine LE.unk _ _ ?_ | refine LE.eq _ _ _ rfl ?_)
  ·exact LessH.refl _
  ·exact Nat.le_refl _
  intro ⟨i, o, bb, m, g⟩ hI ih
  have q0 := hI.il
  have hok := hI.ok
  dsimp only at q0 hok ⊢
  have hrl := P3 rs i
  rcases hI.out with ⟨e0, e1⟩ | ⟨e1, hbO2, hbO⟩
  all_goals dsimp only at e1
  ·skip
   obtain rfl : i = 0 := by rw [e0] at hrl; exact hrl.symm
   subst e1
   refine A7 (st := [10]) ?_
   refine br ?_ ?_ <;> intro h5_0
   ·(refine C2 (D7 (by first | rfl | assumption | (first | exact B0 Rg.T Rg0 (k := 0) (by omega) | (exfalso; omega))) rfl ?_))
    (apply est (u := .agg [.int _ _, .int _ _, .str _]) j3; exact Q0; exact Q8; exact j4; exact kb; rfl)
    (apply D2 (vs := [.int _ _, .int _ _, .str _]) j2; exact Q0; exact Q8; rfl; exact kb; rfl)
    refine B6 (s275 (rs.getD 0 Rg0)) rfl j2 ?_ ?_ <;> intro h7_1
    ·refine A4 ?_ (by exact Q0) (by exact Q8)
     refine br ?_ ?_ <;> intro h7_7
     ·have hno : ¬ timeOK rdM n rs := fun e => by
       obtain ⟨⟨e1, e2, e3⟩, e4⟩ := e.2 0 (by omega)
       first
       | exact h7_1 e1
       | omega
       | (have := e4 (by omega); omega)
       | exact h7_32 e3
      rw [show tmX n rs = 0 from if_neg hno, decide_eq_false hno]
      exact E4 rfl rfl
     ·refine br (fun h => absurd h ((by omega))) ?_
      intro h7_11
      refine A4 ?_ (by exact Q0) (by exact Q8)
      refine A4 ?_ (by exact Q0) (by exact Q8)
      refine A4 ?_ (by exact Q0) (by exact Q8)
      refine C8 (s276 _ _) rfl rfl rfl ?_
      refine br ?_ ?_ <;> intro h7_32
      ·have hno : ¬ timeOK rdM n rs := fun e => by
        obtain ⟨⟨e1, e2, e3⟩, e4⟩ := e.2 0 (by omega)
        first
        | exact h7_1 e1
        | omega
        | (have := e4 (by omega); omega)
        | exact h7_32 e3
       rw [show tmX n rs = 0 from if_neg hno, decide_eq_false hno]
       exact E4 rfl rfl
      ·refine A4 ?_ (by exact Q0) (by exact Q8)
       refine D3 (es := [[.int _ _]]) j4 kz kb rfl rfl ?_
       (apply ean (s' := 8) (es := [[.int _ _]]) rfl j3 kz; exact H5; exact Q6; exact Q4; exact Q4; exact Q4)
       refine E1 fun G hG => ?_
       refine B7 ?_
       have hit : tmR n rs 0 := ⟨⟨h7_1, by omega, Classical.not_not.1 h7_32⟩, fun _ => by omega⟩
       refine C6 (ih ⟨0 + 1, .view (m + 1 + 1) 0 1, m + 1 + 1, m + 1 + 1 + 1, G⟩ ⟨by dsimp only; omega, .inr ⟨?_, ?_, by dsimp only; omega, by dsimp only; omega⟩, fun j hj => ?_⟩ (by dsimp only; omega)) (by (repeat first | exact LE.nil _ | refine LE.unk _ _ ?_ | refine LE.eq _ _ _ rfl ?_)) (LessH.refl _) (Nat.le_refl _)
       ·show V.view _ 0 _ = V.view _ 0 (vlL rs 0 ++ [_]).length; rw [List.length_append]; rfl
       ·dsimp only; rw [hG]; show _ = some (Blk.mk ((vlL rs 0 ++ [_]).map iV) 1 3); rw [List.map_append]; exact Q0
       ·rcases Nat.lt_succ_iff_lt_or_eq.1 hj with q | q
        ·exact hok j q
        ·rw [q]; exact hit
    ·have hno : ¬ timeOK rdM n rs := fun e => by
      obtain ⟨⟨e1, e2, e3⟩, e4⟩ := e.2 0 (by omega)
      first
      | exact h7_1 e1
      | omega
      | (have := e4 (by omega); omega)
      | exact h7_32 e3
     rw [show tmX n rs = 0 from if_neg hno, decide_eq_false hno]
     exact E4 rfl rfl
   ·exfalso; omega
  ·skip
   dsimp only at hbO2 hbO
   subst e1
   refine A7 (st := [10]) ?_
   refine br ?_ ?_ <;> intro h5_0
   ·(refine C2 (D7 (by first | rfl | assumption | exact Q38) rfl ?_))
    (apply est (u := .agg [.int _ _, .int _ _, .str _]) j3; exact Q0; exact Q8; exact j4; exact kb; rfl)
    (apply D2 (vs := [.int _ _, .int _ _, .str _]) j2; exact Q0; exact Q8; rfl; exact kb; rfl)
    refine B6 (s275 (rs.getD i Rg0)) rfl j2 ?_ ?_ <;> intro h7_1
    ·refine A4 ?_ (by exact Q0) (by exact Q8)
     refine br ?_ ?_ <;> intro h7_7
     ·have hno : ¬ timeOK rdM n rs := fun e => by
       obtain ⟨⟨e1, e2, e3⟩, e4⟩ := e.2 i (by omega)
       first
       | exact h7_1 e1
       | omega
       | (have := e4 (by omega); omega)
       | exact h7_32 e3
      rw [show tmX n rs = 0 from if_neg hno, decide_eq_false hno]
      exact E4 rfl rfl
     ·refine br ?_ ?_ <;> intro h7_11
      ·refine B7 ?_
       (refine C2 (D7 (by first | rfl | assumption | exact Q38) rfl ?_))
       refine A4 ?_ (by exact Q0) (by exact Q8)
       refine br ?_ ?_ <;> intro h7_21
       ·have hno : ¬ timeOK rdM n rs := fun e => by
         obtain ⟨⟨e1, e2, e3⟩, e4⟩ := e.2 i (by omega)
         first
         | exact h7_1 e1
         | omega
         | (have := e4 (by omega); omega)
         | exact h7_32 e3
        rw [show tmX n rs = 0 from if_neg hno, decide_eq_false hno]
        exact E4 rfl rfl
       ·refine A4 ?_ (by exact Q0) (by exact Q8)
        refine A4 ?_ (by exact Q0) (by exact Q8)
        refine A4 ?_ (by exact Q0) (by exact Q8)
        refine C8 (s276 _ _) rfl rfl rfl ?_
        refine br ?_ ?_ <;> intro h7_32
        ·have hno : ¬ timeOK rdM n rs := fun e => by
          obtain ⟨⟨e1, e2, e3⟩, e4⟩ := e.2 i (by omega)
          first
          | exact h7_1 e1
          | omega
          | (have := e4 (by omega); omega)
          | exact h7_32 e3
         rw [show tmX n rs = 0 from if_neg hno, decide_eq_false hno]
         exact E4 rfl rfl
        ·refine A4 ?_ (by exact Q0) (by exact Q8)
         refine D3 (es := [[.int _ _]]) j4 kz kb rfl rfl ?_
         (apply eap (s' := 8) (es := [[.int _ _]]) rfl rfl; exact Q0; exact j2; exact Q29; exact j2; exact kz; exact H5; exact Q6; exact Q4; exact Q4)
         refine E1 fun G hG => ?_
         refine B7 ?_
         have hit : tmR n rs i := ⟨⟨h7_1, by omega, Classical.not_not.1 h7_32⟩, fun _ => by omega⟩
         refine C6 (ih ⟨i + 1, .view (m + 1 + 1) 0 ((vlL rs i).length + 1), m + 1 + 1, m + 1 + 1 + 1, G⟩ ⟨by dsimp only; omega, .inr ⟨?_, ?_, by dsimp only; omega, by dsimp only; omega⟩, fun j hj => ?_⟩ (by dsimp only; omega)) (by (repeat first | exact LE.nil _ | refine LE.unk _ _ ?_ | refine LE.eq _ _ _ rfl ?_)) (LessH.refl _) (Nat.le_refl _)
         ·show V.view _ 0 _ = V.view _ 0 (vlL rs i ++ [_]).length; rw [List.length_append]; rfl
         ·dsimp only; rw [hG]; show _ = some (Blk.mk ((vlL rs i ++ [_]).map iV) 1 3); rw [List.map_append]; exact Q0
         ·rcases Nat.lt_succ_iff_lt_or_eq.1 hj with q | q
          ·exact hok j q
          ·rw [q]; exact hit
      ·refine A4 ?_ (by exact Q0) (by exact Q8)
       refine A4 ?_ (by exact Q0) (by exact Q8)
       refine A4 ?_ (by exact Q0) (by exact Q8)
       refine C8 (s276 _ _) rfl rfl rfl ?_
       refine br ?_ ?_ <;> intro h7_32
       ·have hno : ¬ timeOK rdM n rs := fun e => by
         obtain ⟨⟨e1, e2, e3⟩, e4⟩ := e.2 i (by omega)
         first
         | exact h7_1 e1
         | omega
         | (have := e4 (by omega); omega)
         | exact h7_32 e3
        rw [show tmX n rs = 0 from if_neg hno, decide_eq_false hno]
        exact E4 rfl rfl
       ·refine A4 ?_ (by exact Q0) (by exact Q8)
        refine D3 (es := [[.int _ _]]) j4 kz kb rfl rfl ?_
        (apply eap (s' := 8) (es := [[.int _ _]]) rfl rfl; exact Q0; exact j2; exact Q29; exact j2; exact kz; exact H5; exact Q6; exact Q4; exact Q4)
        refine E1 fun G hG => ?_
        refine B7 ?_
        have hit : tmR n rs i := ⟨⟨h7_1, by omega, Classical.not_not.1 h7_32⟩, fun _ => by omega⟩
        refine C6 (ih ⟨i + 1, .view (m + 1 + 1) 0 ((vlL rs i).length + 1), m + 1 + 1, m + 1 + 1 + 1, G⟩ ⟨by dsimp only; omega, .inr ⟨?_, ?_, by dsimp only; omega, by dsimp only; omega⟩, fun j hj => ?_⟩ (by dsimp only; omega)) (by (repeat first | exact LE.nil _ | refine LE.unk _ _ ?_ | refine LE.eq _ _ _ rfl ?_)) (LessH.refl _) (Nat.le_refl _)
        ·show V.view _ 0 _ = V.view _ 0 (vlL rs i ++ [_]).length; rw [List.length_append]; rfl
        ·dsimp only; rw [hG]; show _ = some (Blk.mk ((vlL rs i ++ [_]).map iV) 1 3); rw [List.map_append]; exact Q0
        ·rcases Nat.lt_succ_iff_lt_or_eq.1 hj with q | q
         ·exact hok j q
         ·rw [q]; exact hit
    ·have hno : ¬ timeOK rdM n rs := fun e => by
      obtain ⟨⟨e1, e2, e3⟩, e4⟩ := e.2 i (by omega)
      first
      | exact h7_1 e1
      | omega
      | (have := e4 (by omega); omega)
      | exact h7_32 e3
     rw [show tmX n rs = 0 from if_neg hno, decide_eq_false hno]
     exact E4 rfl rfl
   ·have hvn : vlL rs i ≠ [] := fun e => by rw [e] at hrl; simp at hrl; omega
    apply T3 [bb] (s277 (vlL rs i) true hvn (by omega)) rfl rfl rfl
    ·exact SnapL.cons _ _ _ _ (.one _ _ (A3 (b := ⟨(vlL rs i).map iV, 1, 3⟩) ((vlL rs i).map iT) (List.mem_singleton.2 rfl) (by exact Q0) (rowsI _).symm (List.length_map ..).symm)) SnapL.nil
    obtain rfl : i = rs.length := by omega
    have hyes : timeOK rdM n rs := ⟨by omega, hok⟩
    rw [show tmX n rs = Tryz.med (vlL rs rs.length) from (if_pos hyes).trans (by rw [vlL_all]), decide_eq_true hyes]
    exact E4 rfl rfl
open Go.V
set_option linter.unusedVariables false
set_option linter.unusedSimpArgs false
set_option maxRecDepth 20000
set_option maxHeartbeats 4000000
noncomputable def bZ (p : ByteArray) : Bt := if bOK p then bX p else BtZ
noncomputable def btT (n : Int) (p : ByteArray) : Int := if bOK p ∧ (bX p).nl = false then tmX n (bX p).rs else 0
noncomputable instance dcBo (n : Int) (p : ByteArray) : Decidable (bodyOK rdM n p) := Classical.propDecidable _
noncomputable instance dcCt (n : Int) (c : Ct) : Decidable (nodes n ∧ ctOK mk bare rdM dgB n c) := Classical.propDecidable _
theorem bZ_y {p : ByteArray} (h : bOK p) : bZ p = bX p := if_pos h
theorem ct_iff {n : Int} {c : Ct} (hn : nodes n) : (∀ i, i < c.ps.length → arS n 2 c.vw c.sq c.ps i) ∧ ¬ (∃ x ∈ c.ps, x.dg ≠ dgB c.bd) ↔ ∀ i, i < c.ps.length → pOK mk bare dgB n c i := by
 constructor
 ·rintro ⟨h1, h2⟩ i hi
  obtain ⟨e1, e2, e3, ⟨_, e4⟩, e5⟩ := h1 i hi
  refine ⟨e1, e4, ?_, e2, e3, e5⟩
  refine Classical.byContradiction fun q => h2 ⟨c.ps.getD i Msg0, ?_, q⟩
  rw [show c.ps.getD i Msg0 = c.ps[i] by simp [hi]]; exact List.getElem_mem hi
 ·intro h
  refine ⟨fun i hi => ?_, ?_⟩
  ·obtain ⟨e1, e2, e3, e4, e5, e6⟩ := h i hi
   exact ⟨e1, e4, e5, ⟨hn, e2⟩, e6⟩
  ·rintro ⟨x, hx, hd⟩
   obtain ⟨i, hi, e⟩ := List.getElem_of_mem hx
   obtain ⟨_, _, e3, _⟩ := h i hi
   rw [show c.ps.getD i Msg0 = x by simp [hi, e]] at e3
   exact hd e3
theorem s161 (n : Int) (hn : nodes n) (p : ByteArray) : Pure En 161 [.one (.int .i64 n), .one (.str p)] [.agg ((bZ p).T false), .one (.int .i64 (btT n p)), .one (.bool (decide (bodyOK rdM n p)))] := by
 have h228 : Pure En 228 [.one (.str p)] [.agg ((bZ p).T false), .one (.bool (decide (bOK p)))] := s228 p
 refine Pure.of_ev (st := []) Tryz.func161 rfl kb ?_
 refine C8 h228 rfl rfl rfl ?_
 refine brB ?_ ?_ <;> intro h1_4
 ·(apply est (u := .agg [.bool _, .int _ _, .int _ _, .int _ _, .int _ _, .str _, _]) j3; exact Q0; exact Q8; exact j4; exact kb; rfl)
  refine A4 ?_ (by exact Q0) (by exact Q8)
  refine brB ?_ ?_ <;> intro h2_4
  ·(apply D2 (vs := [.bool _, .int _ _, .int _ _, .int _ _, .int _ _, .str _, _]) j2; exact Q0; exact Q8; rfl; exact kb; rfl)
   (apply est (u := .agg [.bool _, .int _ _, .int _ _, .int _ _, .int _ _, .str _, _]) j3; exact Q0; exact Q8; exact j4; exact kb; rfl)
   first
   | (have hb : ¬ bOK p := of_decide_eq_false h1_4
      rw [show btT n p = 0 from if_neg (fun q => hb q.1), decide_eq_false (fun q : bodyOK rdM n p => hb q.1)]
      refine C7 [] (A0 (A2 rfl (by exact Q0) j2 kb rfl) (A0 rfl (A0 rfl A1))) ?_
      exact (SnapL.cons _ _ _ _ (SnapC.agg (.cons _ _ _ _ (.bool _) (.cons _ _ _ _ (.int _ _) (.cons _ _ _ _ (.int _ _) (.cons _ _ _ _ (.int _ _) (.cons _ _ _ _ (.int _ _) (.cons _ _ _ _ (.str _) (.cons _ _ _ _ (.sl true false _ (fun _ => .inl rfl)) .nil)))))))) (SnapL.cons _ _ _ _ (.one _ _ (.int _ _)) (SnapL.cons _ _ _ _ (.one _ _ (.bool _)) SnapL.nil))))
   | (have hb : bOK p := of_decide_eq_true h1_4
      have hz : (bX p).nl = true := by rw [← bZ_y hb]; exact h2_4
      rw [show btT n p = 0 from if_neg (fun q => by have := q.2; rw [hz] at this; cases this), decide_eq_true (show bodyOK rdM n p from ⟨hb, .inl hz⟩)]
      refine C7 [] (A0 (A2 rfl (by exact Q0) j2 kb rfl) (A0 rfl (A0 rfl A1))) ?_
      exact (SnapL.cons _ _ _ _ (SnapC.agg (.cons _ _ _ _ (.bool _) (.cons _ _ _ _ (.int _ _) (.cons _ _ _ _ (.int _ _) (.cons _ _ _ _ (.int _ _) (.cons _ _ _ _ (.int _ _) (.cons _ _ _ _ (.str _) (.cons _ _ _ _ (.sl true false _ (fun _ => .inl rfl)) .nil)))))))) (SnapL.cons _ _ _ _ (.one _ _ (.int _ _)) (SnapL.cons _ _ _ _ (.one _ _ (.bool _)) SnapL.nil))))
  ·refine A4 ?_ (by exact Q0) (by exact Q8)
   refine C8 (s229 n hn (bZ p).rs false) rfl rfl rfl ?_
   refine brB ?_ ?_ <;> intro h4_6
   ·(apply D2 (vs := [.bool _, .int _ _, .int _ _, .int _ _, .int _ _, .str _, _]) j2; exact Q0; exact Q8; rfl; exact kb; rfl)
    (apply est (u := .agg [.bool _, .int _ _, .int _ _, .int _ _, .int _ _, .str _, _]) j3; exact Q0; exact Q8; exact j4; exact kb; rfl)
    have hb : bOK p := of_decide_eq_true h1_4
    have hz : (bX p).nl = false := by rw [← bZ_y hb]; exact h2_4
    have hbz := bZ_y hb
    rw [show btT n p = tmX n (bZ p).rs from (if_pos ⟨hb, hz⟩).trans (by rw [hbz])]
    first
    | (rw [decide_eq_true (show bodyOK rdM n p from ⟨hb, .inr (by rw [← hbz]; exact of_decide_eq_true h4_6)⟩)]
       refine C7 [] (A0 (A2 rfl (by exact Q0) j2 kb rfl) (A0 rfl (A0 rfl A1))) ?_
       exact (SnapL.cons _ _ _ _ (SnapC.agg (.cons _ _ _ _ (.bool _) (.cons _ _ _ _ (.int _ _) (.cons _ _ _ _ (.int _ _) (.cons _ _ _ _ (.int _ _) (.cons _ _ _ _ (.int _ _) (.cons _ _ _ _ (.str _) (.cons _ _ _ _ (.sl true false _ (fun _ => .inl rfl)) .nil)))))))) (SnapL.cons _ _ _ _ (.one _ _ (.int _ _)) (SnapL.cons _ _ _ _ (.one _ _ (.bool _)) SnapL.nil))))
    | (rw [decide_eq_false (fun q : bodyOK rdM n p => q.2.elim (fun e => by rw [hz] at e; cases e) (fun e => (of_decide_eq_false h4_6) (by rw [hbz]; exact e)))]
       refine C7 [] (A0 (A2 rfl (by exact Q0) j2 kb rfl) (A0 rfl (A0 rfl A1))) ?_
       exact (SnapL.cons _ _ _ _ (SnapC.agg (.cons _ _ _ _ (.bool _) (.cons _ _ _ _ (.int _ _) (.cons _ _ _ _ (.int _ _) (.cons _ _ _ _ (.int _ _) (.cons _ _ _ _ (.int _ _) (.cons _ _ _ _ (.str _) (.cons _ _ _ _ (.sl true false _ (fun _ => .inl rfl)) .nil)))))))) (SnapL.cons _ _ _ _ (.one _ _ (.int _ _)) (SnapL.cons _ _ _ _ (.one _ _ (.bool _)) SnapL.nil))))
   ·(apply D2 (vs := [.bool _, .int _ _, .int _ _, .int _ _, .int _ _, .str _, _]) j2; exact Q0; exact Q8; rfl; exact kb; rfl)
    (apply est (u := .agg [.bool _, .int _ _, .int _ _, .int _ _, .int _ _, .str _, _]) j3; exact Q0; exact Q8; exact j4; exact kb; rfl)
    have hb : bOK p := of_decide_eq_true h1_4
    have hz : (bX p).nl = false := by rw [← bZ_y hb]; exact h2_4
    have hbz := bZ_y hb
    rw [show btT n p = tmX n (bZ p).rs from (if_pos ⟨hb, hz⟩).trans (by rw [hbz])]
    first
    | (rw [decide_eq_true (show bodyOK rdM n p from ⟨hb, .inr (by rw [← hbz]; exact of_decide_eq_true h4_6)⟩)]
       refine C7 [] (A0 (A2 rfl (by exact Q0) j2 kb rfl) (A0 rfl (A0 rfl A1))) ?_
       exact (SnapL.cons _ _ _ _ (SnapC.agg (.cons _ _ _ _ (.bool _) (.cons _ _ _ _ (.int _ _) (.cons _ _ _ _ (.int _ _) (.cons _ _ _ _ (.int _ _) (.cons _ _ _ _ (.int _ _) (.cons _ _ _ _ (.str _) (.cons _ _ _ _ (.sl true false _ (fun _ => .inl rfl)) .nil)))))))) (SnapL.cons _ _ _ _ (.one _ _ (.int _ _)) (SnapL.cons _ _ _ _ (.one _ _ (.bool _)) SnapL.nil))))
    | (rw [decide_eq_false (fun q : bodyOK rdM n p => q.2.elim (fun e => by rw [hz] at e; cases e) (fun e => (of_decide_eq_false h4_6) (by rw [hbz]; exact e)))]
       refine C7 [] (A0 (A2 rfl (by exact Q0) j2 kb rfl) (A0 rfl (A0 rfl A1))) ?_
       exact (SnapL.cons _ _ _ _ (SnapC.agg (.cons _ _ _ _ (.bool _) (.cons _ _ _ _ (.int _ _) (.cons _ _ _ _ (.int _ _) (.cons _ _ _ _ (.int _ _) (.cons _ _ _ _ (.int _ _) (.cons _ _ _ _ (.str _) (.cons _ _ _ _ (.sl true false _ (fun _ => .inl rfl)) .nil)))))))) (SnapL.cons _ _ _ _ (.one _ _ (.int _ _)) (SnapL.cons _ _ _ _ (.one _ _ (.bool _)) SnapL.nil))))
 ·(apply est (u := .agg [.bool _, .int _ _, .int _ _, .int _ _, .int _ _, .str _, _]) j3; exact Q0; exact Q8; exact j4; exact kb; rfl)
  (apply D2 (vs := [.bool _, .int _ _, .int _ _, .int _ _, .int _ _, .str _, _]) j2; exact Q0; exact Q8; rfl; exact kb; rfl)
  (apply est (u := .agg [.bool _, .int _ _, .int _ _, .int _ _, .int _ _, .str _, _]) j3; exact Q0; exact Q8; exact j4; exact kb; rfl)
  first
  | (have hb : ¬ bOK p := of_decide_eq_false h1_4
     rw [show btT n p = 0 from if_neg (fun q => hb q.1), decide_eq_false (fun q : bodyOK rdM n p => hb q.1)]
     refine C7 [] (A0 (A2 rfl (by exact Q0) j2 kb rfl) (A0 rfl (A0 rfl A1))) ?_
     exact (SnapL.cons _ _ _ _ (SnapC.agg (.cons _ _ _ _ (.bool _) (.cons _ _ _ _ (.int _ _) (.cons _ _ _ _ (.int _ _) (.cons _ _ _ _ (.int _ _) (.cons _ _ _ _ (.int _ _) (.cons _ _ _ _ (.str _) (.cons _ _ _ _ (.sl true false _ (fun _ => .inl rfl)) .nil)))))))) (SnapL.cons _ _ _ _ (.one _ _ (.int _ _)) (SnapL.cons _ _ _ _ (.one _ _ (.bool _)) SnapL.nil))))
  | (have hb : bOK p := of_decide_eq_true h1_4
     have hz : (bX p).nl = true := by rw [← bZ_y hb]; exact h2_4
     rw [show btT n p = 0 from if_neg (fun q => by have := q.2; rw [hz] at this; cases this), decide_eq_true (show bodyOK rdM n p from ⟨hb, .inl hz⟩)]
     refine C7 [] (A0 (A2 rfl (by exact Q0) j2 kb rfl) (A0 rfl (A0 rfl A1))) ?_
     exact (SnapL.cons _ _ _ _ (SnapC.agg (.cons _ _ _ _ (.bool _) (.cons _ _ _ _ (.int _ _) (.cons _ _ _ _ (.int _ _) (.cons _ _ _ _ (.int _ _) (.cons _ _ _ _ (.int _ _) (.cons _ _ _ _ (.str _) (.cons _ _ _ _ (.sl true false _ (fun _ => .inl rfl)) .nil)))))))) (SnapL.cons _ _ _ _ (.one _ _ (.int _ _)) (SnapL.cons _ _ _ _ (.one _ _ (.bool _)) SnapL.nil))))
theorem s86 (n : Int) (hn : nodes n) (p : ByteArray) : Pure En 86 [.one (.int .i64 n), .one (.str p)] [.one (.bool (decide (bodyOK rdM n p)))] := by
 refine Pure.of_ev (st := []) Tryz.func86 rfl kb ?_
 refine C8 (s161 n hn p) rfl rfl rfl ?_
 refine brB ?_ ?_ <;> intro h1_6
 ·(apply est (u := .agg [.bool _, .int _ _, .int _ _, .int _ _, .int _ _, .str _, _]) j3; exact Q0; rfl; exact j4; exact kb; rfl)
  first | (refine B4 rfl ?_; exact of_decide_eq_true h1_6) | (refine B3 rfl ?_; exact of_decide_eq_false h1_6)
 ·(apply est (u := .agg [.bool _, .int _ _, .int _ _, .int _ _, .int _ _, .str _, _]) j3; exact Q0; rfl; exact j4; exact kb; rfl)
  first | (refine B4 rfl ?_; exact of_decide_eq_true h1_6) | (refine B3 rfl ?_; exact of_decide_eq_false h1_6)
theorem s83 (n : Int) (c : Ct) (b : Bool) : Pure En 83 [.one (.int .i64 n), .agg (c.T b)] [.one (.bool (decide (nodes n ∧ ctOK mk bare rdM dgB n c)))] := by
 have hl : (c.ps.map Msg.T).length = c.ps.length := List.length_map ..
 refine Pure.of_ev (st := []) Tryz.func83 rfl kb ?_
 refine B6 (p22 n) rfl j2 ?_ ?_ <;> intro h1_1
 ·refine A4 ?_ (by exact Q0) (by exact Q8)
  refine br ?_ ?_ <;> intro h1_7
  ·refine B3 rfl ?_
   rintro ⟨q1, q2, q3, q4, _⟩
   first
   | exact h1_1 q1
   | omega
   | exact h1_13 q4
  ·refine A4 ?_ (by exact Q0) (by exact Q8)
   refine B6 (s86 n h1_1 c.bd) rfl j2 ?_ ?_ <;> intro h1_13
   ·refine A4 ?_ (by exact Q0) (by exact Q8)
    refine C8 (s140 n h1_1) rfl rfl rfl ?_
    refine br ?_ ?_ <;> intro h1_22
    ·refine B3 rfl ?_
     rintro ⟨q1, q2, q3, q4, _⟩
     first
     | exact h1_1 q1
     | omega
     | exact h1_13 q4
    ·have hq := K5 h1_1
     refine A4 ?_ (by exact Q0) (by exact Q8)
     refine C8 (s159 c.bd (by omega)) rfl rfl rfl ?_
     refine A4 ?_ (by exact Q0) (by exact Q8)
     (refine C2 (D7 (by first | rfl | assumption | (exact B0 Msg.T Msg0 (k := 0) (by omega))) rfl ?_))
     (apply est (u := .str _) j3; exact Q0; exact Q8; exact j4; exact kb; rfl)
     (apply est (u := .agg [.int _ _, .int _ _, .int _ _, .int _ _, .str _, .str _, .str _]) j3; exact Q0; exact Q8; exact j4; exact kb; rfl)
     refine clr 11 [3, 3, 3, 3, 0, 0, 1, 0, 0, 1, 0] [(1, 7), (4, 7), (1, 8), (4, 8), (7, 8), (4, 9)] j2 (by decide +kernel) ?_ ?_
     ·first | (simp [ClearL, ids]; done) | (simp [ClearL, ids]; omega) | (simp [ClearL, ids, srcIds, Env.eval, put, upd, retV, A.toV, T.toV]; try omega)
     refine A4 ?_ (by exact Q0) (by exact Q8)
     refine A4 ?_ (by exact Q0) (by exact Q8)
     refine A4 ?_ (by exact Q0) (by exact Q8)
     refine B6 (s158 n 2 c.vw c.sq c.ps b (by have := K5 h1_1; omega)) rfl j2 ?_ ?_ <;> intro h4_7
     ·refine A4 ?_ (by exact Q0) (by exact Q8)
      refine eopB (o98 false b c.ps (dgB c.bd) (by have := K5 h1_1; omega) ?_ ?_) rfl j2 ?_ ?_
      ·exact F9
      ·exact F9
      all_goals intro h4_12
      ·first
       | (refine B4 rfl ?_; exact ⟨h1_1, by omega, by omega, h1_13, (ct_iff h1_1).1 ⟨h4_7, of_decide_eq_false h4_12⟩⟩)
       | (refine B3 rfl ?_; rintro ⟨q1, q2, q3, q4, q5⟩; have q6 := (ct_iff h1_1).2 q5; first | exact h4_7 q6.1 | exact q6.2 (of_decide_eq_true h4_12))
      ·first
       | (refine B4 rfl ?_; exact ⟨h1_1, by omega, by omega, h1_13, (ct_iff h1_1).1 ⟨h4_7, of_decide_eq_false h4_12⟩⟩)
       | (refine B3 rfl ?_; rintro ⟨q1, q2, q3, q4, q5⟩; have q6 := (ct_iff h1_1).2 q5; first | exact h4_7 q6.1 | exact q6.2 (of_decide_eq_true h4_12))
     ·first
      | (refine B4 rfl ?_; exact ⟨h1_1, by omega, by omega, h1_13, (ct_iff h1_1).1 ⟨h4_7, of_decide_eq_false h4_12⟩⟩)
      | (refine B3 rfl ?_; rintro ⟨q1, q2, q3, q4, q5⟩; have q6 := (ct_iff h1_1).2 q5; first | exact h4_7 q6.1 | exact q6.2 (of_decide_eq_true h4_12))
   ·refine B3 rfl ?_
    rintro ⟨q1, q2, q3, q4, _⟩
    first
    | exact h1_1 q1
    | omega
    | exact h1_13 q4
 ·refine B3 rfl ?_
  rintro ⟨q1, q2, q3, q4, _⟩
  first
  | exact h1_1 q1
  | omega
  | exact h1_13 q4
open Go.V
set_option linter.unusedVariables false
set_option linter.unusedSimpArgs false
set_option maxRecDepth 20000
set_option maxHeartbeats 4000000
def Ct.V (c : Ct) : List V := [.str c.bd, .sl true false (c.ps.map Msg.T)]
theorem rowsC (L : List Ct) : rowsV (L.map (Ct.T false)) = L.map Ct.V := by unfold rowsV; rw [List.map_map]; rfl
theorem O2 {n : Int} {c : Ct} (h : nodes n ∧ ctOK mk bare rdM dgB n c) : 0 < c.ps.length := by
 have := K5 h.1
 have := h.2.1
 omega
theorem P4 {s : ByteArray} (h : (ctC s).isSome = true) : ctC s = some (ctX s) := by
 unfold ctX
 match e : ctC s with
 | some c => rfl
 | none => rw [e] at h; cases h
noncomputable def vcL (l : List ByteArray) : Nat → List Ct
 | 0 => []
 | i + 1 => vcL l i ++ [ctX (l.getD i ⟨#[]⟩)]
theorem vcL_len (l : List ByteArray) : ∀ i, (vcL l i).length = i
 | 0 => rfl
 | i + 1 => by show (vcL l i ++ [_]).length = _; rw [List.length_append, vcL_len l i]; rfl
theorem getVm {α : Type} (f : α → List V) (d : α) {L : List α} {i : Nat} (hi : 0 < i) (h : i ≤ L.length) : (L.map f)[0 + ((i : Int) - 1).toNat]? = some (f (L.getD (i - 1) d)) := by
 rw [show ((i : Int) - 1).toNat = i - 1 by omega, Nat.zero_add]; simp [show i - 1 < L.length by omega]
abbrev VC (n vw : Int) (l : List ByteArray) (i : Nat) (out : List Ct) : Prop := Vc mk bare rdM dgB n vw l i out
theorem VC.pos {n vw : Int} {l : List ByteArray} {i : Nat} {out : List Ct} (hn : nodes n) (h : VC n vw l i out) : ∀ j, j < i → 0 < (out.getD j Ct0).ps.length := by
 induction h with
 | nil => intro j hj; omega
 | more i out c h hi hc ih =>
  intro j hj
  have hl := h.len
  by_cases e : j < i
  ·have := ih j e
   rwa [show (out ++ [c]).getD j Ct0 = out.getD j Ct0 by simp [List.getElem?_append_left (show j < out.length by omega)]]
  ·rw [show (out ++ [c]).getD j Ct0 = c by simp [show j = out.length by omega]]
   exact O2 ⟨hn, hc.2.1⟩
def okV (n : Int) (m : Msg) : Prop := nodes n ∧ ∃ out, vcM mk bare rdM dgB n m out
noncomputable instance dcOv (n : Int) (m : Msg) : Decidable (okV n m) := Classical.propDecidable _
noncomputable def vcO (n : Int) (m : Msg) : List Ct := if okV n m then vcL (lsO m.bd) (lsO m.bd).length else []
theorem H7 {n : Int} {m : Msg} {i : Nat} (hls : lsC m.bd = some (lsO m.bd)) (hV : VC n m.vw (lsO m.bd) i (vcL (lsO m.bd) i)) (hi : i < (lsO m.bd).length)
  (h : ∀ c, ¬ vcT mk bare rdM dgB n m.vw (vcL (lsO m.bd) i) ((lsO m.bd).getD i ⟨#[]⟩) c) : ¬ okV n m := by
 rintro ⟨_, out, _, _, _, l, e, _, hv⟩
 obtain rfl : lsO m.bd = l := Option.some.inj (hls.symm.trans e)
 exact hV.stop hi h hi hv
theorem okV_yes {n : Int} {m : Msg} (h1 : m.kd = 4) (h2 : 1 ≤ m.vw) (h3 : nodes n ∧ sgd mk bare n m) (hls : lsC m.bd = some (lsO m.bd)) (h8 : (lsO m.bd).length ≤ 8) {i : Nat} (hi : i = (lsO m.bd).length) (hV : VC n m.vw (lsO m.bd) i (vcL (lsO m.bd) i)) : okV n m ∧ vcO n m = vcL (lsO m.bd) i := by
 subst hi
 have h : okV n m := ⟨h3.1, _, h1, h2, h3.2, _, hls, h8, hV⟩
 exact ⟨h, if_pos h⟩
theorem okV_is {n : Int} {m : Msg} {out : List Ct} (hn : nodes n) (h : vcM mk bare rdM dgB n m out) : okV n m ∧ vcO n m = out := by
 have hk : okV n m := ⟨hn, out, h⟩
 refine ⟨hk, ?_⟩
 rw [show vcO n m = _ from if_pos hk]
 obtain ⟨_, _, _, l, e, _, hv⟩ := h
 have el : lsO m.bd = l := by unfold lsO; rw [e]
 rw [el]
 have key : ∀ {i : Nat} {o : List Ct}, VC n m.vw l i o → o = vcL l i := fun {i} {o} h => by
  induction h with
  | nil => rfl
  | more i out c h hi hc ih =>
   show _ = vcL l i ++ [_]
   rw [← ih]
   congr 2
   unfold ctX; rw [hc.1]
 exact (key hv).symm
structure WS where
 i : Nat
 o : V
 b : Nat
 m : Nat
 g : Heap
structure WI (n : Int) (m : Msg) (l : List ByteArray) (a : WS) : Prop where
 il : a.i ≤ l.length
 g0 : a.g 0 = some ⟨[m.V], 7, 37⟩
 out : LsOK Ct.V 2 44 1 (vcL l a.i) a.o a.b a.m a.g
 mm : 1 ≤ a.m
 vc : VC n m.vw l a.i (vcL l a.i)
theorem s70 (n : Int) (m : Msg) : Pure En 70 [.one (.int .i64 n), .agg m.T] [.one (.sl false ((vcO n m).map (Ct.T false))), .one (.bool (decide (okV n m)))] := by
 refine Pure.of_ev (st := [14]) Tryz.func70 rfl kb ?_
 refine A4 ?_ (by exact Q0) (by exact N8)
 refine br ?_ ?_ <;> intro h1_2
 ·have hno : ¬ okV n m := by
   rintro ⟨q0, out, q1, q2, q3, _⟩
   first
   | omega
   | exact h1_11 ⟨q0, q3⟩
  rw [show vcO n m = [] from if_neg hno, decide_eq_false hno]
  exact C7 [] (A0 rfl (A0 rfl A1)) (SnapL.cons _ _ _ _ (.one _ _ .nslW) (SnapL.cons _ _ _ _ (.one _ _ (.bool _)) SnapL.nil))
 ·refine A4 ?_ (by exact Q0) (by exact N8)
  refine br ?_ ?_ <;> intro h1_6
  ·have hno : ¬ okV n m := by
    rintro ⟨q0, out, q1, q2, q3, _⟩
    first
    | omega
    | exact h1_11 ⟨q0, q3⟩
   rw [show vcO n m = [] from if_neg hno, decide_eq_false hno]
   exact C7 [] (A0 rfl (A0 rfl A1)) (SnapL.cons _ _ _ _ (.one _ _ .nslW) (SnapL.cons _ _ _ _ (.one _ _ (.bool _)) SnapL.nil))
  ·(apply D2 (vs := [.int _ _, .int _ _, .int _ _, .int _ _, .str _, .str _, .str _]) j2; exact Q0; exact N8; rfl; exact kb; rfl)
   refine B6 (s55 n m) rfl j2 ?_ ?_ <;> intro h1_11
   ·refine A4 ?_ (by exact Q0) (by exact N8)
    refine C8 (s147 m.bd) rfl rfl rfl ?_
    refine brB ?_ ?_ <;> intro h3_5
    ·refine br ?_ ?_ <;> intro h4_5
     ·have hno : ¬ okV n m := by
       rintro ⟨_, out, _, _, _, l, e, h8, _⟩
       have el : lsO m.bd = l := by unfold lsO; rw [e]
       first
       | (rw [← el] at h8; rw [List.length_map] at h4_5; omega)
       | (rw [e] at h3_5; cases h3_5)
      rw [show vcO n m = [] from if_neg hno, decide_eq_false hno]
      exact C7 [] (A0 rfl (A0 rfl A1)) (SnapL.cons _ _ _ _ (.one _ _ .nslW) (SnapL.cons _ _ _ _ (.one _ _ (.bool _)) SnapL.nil))
     ·have hls := I4 h3_5
      have hn := h1_11.1
      have hl : ((lsO m.bd).map tT).length = (lsO m.bd).length := List.length_map ..
      refine U7 fun g0 hg0 => ?_
      refine A9 (fun (a : WS) => [.int .i64 n, .unk, .unk, .ptr 0 0 0, .unk, .unk, .unk, .unk, a.o, .unk, .unk, .unk, .unk, .unk, .unk, .unk, .unk, .unk, .unk, .unk, .unk, .unk, .unk, .unk, .unk, .unk, .unk, .unk, .unk, .unk, .unk, .unk, .unk, .unk, .unk, .unk, .unk, .unk, .unk, .unk, .sl true false ((lsO m.bd).map tT), .int .i64 ((lsO m.bd).map tT).length, .int .i64 a.i]) (fun (a : WS) => a.g) (fun (a : WS) => a.m) (fun (a : WS) => WI n m (lsO m.bd) a) (fun (a : WS) => (lsO m.bd).length - a.i) ⟨0, .nsl, 0, 1, g0⟩ ?_ ?_ ?_ ?_ ?_
      ·refine ⟨Nat.zero_le _, ?_, .inl ⟨rfl, rfl⟩, by dsimp only; omega, .nil⟩
       dsimp only; rw [hg0]; exact Q0
      ·(repeat first | exact LE.nil _ | refine LE.unk _ _ ?_ | refine LE.eq _ _ _ rfl ?_)
      ·exact LessH.refl _
      ·exact Nat.le_refl _
      intro ⟨i, o, b, mm, g⟩ hI ih
      have q0 := hI.il
      have hg0 := hI.g0
      have q4 := hI.mm
      unfold Msg.V at hg0
      dsimp only at q0 hg0 q4 ⊢
      have hrl := vcL_len (lsO m.bd) i
      rcases hI.out with ⟨e0, e1⟩ | ⟨e1, hbO2, hbO⟩
      all_goals dsimp only at e1
      ·skip
       obtain rfl : i = 0 := by rw [e0] at hrl; exact hrl.symm
       subst e1
       refine A7 (st := [14]) ?_
       refine br ?_ ?_ <;> intro h8_0
       ·(refine C2 (D7 (by first | rfl | assumption | (exact B0 tT ⟨#[]⟩ (k := 0) (by omega))) rfl ?_))
        refine C8 (s148 ((lsO m.bd).getD 0 ⟨#[]⟩)) rfl rfl rfl ?_
        refine brB ?_ ?_ <;> intro h10_4
        ·(apply est (u := .agg [.str _, _]) j3; exact Q0; exact N8; exact j4; exact kb; rfl)
         (apply D2 (vs := [.str _, _]) j2; exact Q0; exact N8; rfl; exact kb; rfl)
         refine B6 (s83 n (ctX ((lsO m.bd).getD 0 ⟨#[]⟩)) false) rfl j2 ?_ ?_ <;> intro h11_5
         ·(apply D2 (vs := [.str _, _]) j2; exact Q0; exact N8; rfl; exact kb; rfl)
          refine C8 (s85 (ctX ((lsO m.bd).getD 0 ⟨#[]⟩)) false (O2 h11_5)) rfl rfl rfl ?_
          refine A4 ?_ (by exact Q0) (by exact N8)
          refine br ?_ ?_ <;> intro h11_13
          ·have hno : ¬ okV n m := H7 hls hI.vc (i := 0) (by omega) (by
            rintro c ⟨e1, e2, e3, e4⟩
            have ec : ctX ((lsO m.bd).getD 0 ⟨#[]⟩) = c := by unfold ctX; rw [e1]
            first
            | (rw [e1] at h10_4; cases h10_4; done)
            | exact h11_5 (by rw [ec]; exact ⟨hn, e2⟩)
            | (rw [ec] at h11_13; omega)
            | (have q := e4 (fun e => by rw [e] at hrl; simp at hrl; omega); (try dsimp only at q); rw [hrl] at q; rw [ec] at h11_27; omega))
           rw [show vcO n m = [] from if_neg hno, decide_eq_false hno]
           exact C7 [] (A0 rfl (A0 rfl A1)) (SnapL.cons _ _ _ _ (.one _ _ .nslW) (SnapL.cons _ _ _ _ (.one _ _ (.bool _)) SnapL.nil))
          ·refine br (fun h => absurd h ((by omega))) ?_
           intro h11_17
           (apply D2 (vs := [.str _, _]) j2; exact Q0; exact N8; rfl; exact kb; rfl)
           refine D3 (es := [[.str _, _]]) j4 kz kb rfl rfl ?_
           (apply ean (s' := 40) (es := [[.str _, _]]) rfl j3 kz; exact H5; exact Q6; exact Q4; exact Q4; exact Q4)
           refine E1 fun G hG => ?_
           refine B7 ?_
           have hvc : vcT mk bare rdM dgB n m.vw (vcL (lsO m.bd) 0) ((lsO m.bd).getD 0 ⟨#[]⟩) (ctX ((lsO m.bd).getD 0 ⟨#[]⟩)) := ⟨P4 h10_4, h11_5.2, by omega, fun hne => by rw [hrl]; have hp : 0 < 0 := Nat.pos_of_ne_zero (fun e => hne (by rw [← List.length_eq_zero_iff, hrl, e])); omega⟩
           refine C6 (ih ⟨0 + 1, .view (mm + 1 + 1) 0 1, mm + 1 + 1, mm + 1 + 1 + 1, G⟩ ⟨by dsimp only; omega, ?_, .inr ⟨?_, ?_, by dsimp only; omega, by dsimp only; omega⟩, by dsimp only; omega, Vc.more 0 _ _ hI.vc (by omega) hvc⟩ (by dsimp only; omega)) (by (repeat first | exact LE.nil _ | refine LE.unk _ _ ?_ | refine LE.eq _ _ _ rfl ?_)) (LessH.refl _) (Nat.le_refl _)
           ·dsimp only; rw [hG]; exact Q0
           ·show V.view _ 0 _ = V.view _ 0 (vcL (lsO m.bd) 0 ++ [_]).length; rw [List.length_append]; rfl
           ·dsimp only; rw [hG]; show _ = some (Blk.mk ((vcL (lsO m.bd) 0 ++ [_]).map Ct.V) 2 44); rw [List.map_append]; exact Q0
         ·have hno : ¬ okV n m := H7 hls hI.vc (i := 0) (by omega) (by
           rintro c ⟨e1, e2, e3, e4⟩
           have ec : ctX ((lsO m.bd).getD 0 ⟨#[]⟩) = c := by unfold ctX; rw [e1]
           first
           | (rw [e1] at h10_4; cases h10_4; done)
           | exact h11_5 (by rw [ec]; exact ⟨hn, e2⟩)
           | (rw [ec] at h11_13; omega)
           | (have q := e4 (fun e => by rw [e] at hrl; simp at hrl; omega); (try dsimp only at q); rw [hrl] at q; rw [ec] at h11_27; omega))
          rw [show vcO n m = [] from if_neg hno, decide_eq_false hno]
          exact C7 [] (A0 rfl (A0 rfl A1)) (SnapL.cons _ _ _ _ (.one _ _ .nslW) (SnapL.cons _ _ _ _ (.one _ _ (.bool _)) SnapL.nil))
        ·(apply est (u := .agg [.str _, _]) j3; exact Q0; exact N8; exact j4; exact kb; rfl)
         have hno : ¬ okV n m := H7 hls hI.vc (i := 0) (by omega) (by
          rintro c ⟨e1, e2, e3, e4⟩
          have ec : ctX ((lsO m.bd).getD 0 ⟨#[]⟩) = c := by unfold ctX; rw [e1]
          first
          | (rw [e1] at h10_4; cases h10_4; done)
          | exact h11_5 (by rw [ec]; exact ⟨hn, e2⟩)
          | (rw [ec] at h11_13; omega)
          | (have q := e4 (fun e => by rw [e] at hrl; simp at hrl; omega); (try dsimp only at q); rw [hrl] at q; rw [ec] at h11_27; omega))
         rw [show vcO n m = [] from if_neg hno, decide_eq_false hno]
         exact C7 [] (A0 rfl (A0 rfl A1)) (SnapL.cons _ _ _ _ (.one _ _ .nslW) (SnapL.cons _ _ _ _ (.one _ _ (.bool _)) SnapL.nil))
       ·obtain ⟨hyes, he⟩ := okV_yes (by omega) (by omega) h1_11 hls (by omega) (i := 0) (by omega) hI.vc
        rw [he, decide_eq_true hyes]
        exact C7 [] (A0 rfl (A0 rfl A1)) (SnapL.cons _ _ _ _ (.one _ _ .nslW) (SnapL.cons _ _ _ _ (.one _ _ (.bool _)) SnapL.nil))
      ·skip
       dsimp only at hbO2 hbO
       subst e1
       refine A7 (st := [14]) ?_
       refine br ?_ ?_ <;> intro h8_0
       ·(refine C2 (D7 (by first | rfl | assumption | (exact B0 tT ⟨#[]⟩ (k := i) (by omega))) rfl ?_))
        refine C8 (s148 ((lsO m.bd).getD i ⟨#[]⟩)) rfl rfl rfl ?_
        refine brB ?_ ?_ <;> intro h10_4
        ·(apply est (u := .agg [.str _, _]) j3; exact Q0; exact N8; exact j4; exact kb; rfl)
         (apply D2 (vs := [.str _, _]) j2; exact Q0; exact N8; rfl; exact kb; rfl)
         refine B6 (s83 n (ctX ((lsO m.bd).getD i ⟨#[]⟩)) false) rfl j2 ?_ ?_ <;> intro h11_5
         ·(apply D2 (vs := [.str _, _]) j2; exact Q0; exact N8; rfl; exact kb; rfl)
          refine C8 (s85 (ctX ((lsO m.bd).getD i ⟨#[]⟩)) false (O2 h11_5)) rfl rfl rfl ?_
          refine A4 ?_ (by exact Q0) (by exact N8)
          refine br ?_ ?_ <;> intro h11_13
          ·have hno : ¬ okV n m := H7 hls hI.vc (i := i) (by omega) (by
            rintro c ⟨e1, e2, e3, e4⟩
            have ec : ctX ((lsO m.bd).getD i ⟨#[]⟩) = c := by unfold ctX; rw [e1]
            first
            | (rw [e1] at h10_4; cases h10_4; done)
            | exact h11_5 (by rw [ec]; exact ⟨hn, e2⟩)
            | (rw [ec] at h11_13; omega)
            | (have q := e4 (fun e => by rw [e] at hrl; simp at hrl; omega); (try dsimp only at q); rw [hrl] at q; rw [ec] at h11_27; omega))
           rw [show vcO n m = [] from if_neg hno, decide_eq_false hno]
           exact C7 [] (A0 rfl (A0 rfl A1)) (SnapL.cons _ _ _ _ (.one _ _ .nslW) (SnapL.cons _ _ _ _ (.one _ _ (.bool _)) SnapL.nil))
          ·refine br ?_ ?_ <;> intro h11_17
           ·refine B7 ?_
            (refine mem (by exact Q0) ⟨rfl, C2 ?_⟩)
            (apply D2 (vs := [.str _, _]) j2; exact Q0; exact N8; rfl; exact kb; rfl)
            refine C8 (s84 ((vcL (lsO m.bd) i).getD (i - 1) Ct0) false (VC.pos hn hI.vc _ (by first | omega | (dsimp only; omega)))) rfl rfl rfl ?_
            (apply D2 (vs := [.str _, _]) j2; exact Q0; exact N8; rfl; exact kb; rfl)
            refine C8 (s84 (ctX ((lsO m.bd).getD i ⟨#[]⟩)) false (O2 h11_5)) rfl rfl rfl ?_
            refine br ?_ ?_ <;> intro h11_27
            ·have hno : ¬ okV n m := H7 hls hI.vc (i := i) (by omega) (by
              rintro c ⟨e1, e2, e3, e4⟩
              have ec : ctX ((lsO m.bd).getD i ⟨#[]⟩) = c := by unfold ctX; rw [e1]
              first
              | (rw [e1] at h10_4; cases h10_4; done)
              | exact h11_5 (by rw [ec]; exact ⟨hn, e2⟩)
              | (rw [ec] at h11_13; omega)
              | (have q := e4 (fun e => by rw [e] at hrl; simp at hrl; omega); (try dsimp only at q); rw [hrl] at q; rw [ec] at h11_27; omega))
             rw [show vcO n m = [] from if_neg hno, decide_eq_false hno]
             exact C7 [] (A0 rfl (A0 rfl A1)) (SnapL.cons _ _ _ _ (.one _ _ .nslW) (SnapL.cons _ _ _ _ (.one _ _ (.bool _)) SnapL.nil))
            ·(apply D2 (vs := [.str _, _]) j2; exact Q0; exact N8; rfl; exact kb; rfl)
             refine D3 (es := [[.str _, _]]) j4 kz kb rfl rfl ?_
             (apply eap (s' := 40) (es := [[.str _, _]]) rfl rfl; exact Q0; exact j2; exact Q29; exact j2; exact kz; exact H5; exact Q6; exact Q4; exact Q4)
             refine E1 fun G hG => ?_
             refine B7 ?_
             have hvc : vcT mk bare rdM dgB n m.vw (vcL (lsO m.bd) i) ((lsO m.bd).getD i ⟨#[]⟩) (ctX ((lsO m.bd).getD i ⟨#[]⟩)) := ⟨P4 h10_4, h11_5.2, by omega, fun hne => by rw [hrl]; have hp : 0 < i := Nat.pos_of_ne_zero (fun e => hne (by rw [← List.length_eq_zero_iff, hrl, e])); omega⟩
             refine C6 (ih ⟨i + 1, .view (mm + 1 + 1) 0 ((vcL (lsO m.bd) i).length + 1), mm + 1 + 1, mm + 1 + 1 + 1, G⟩ ⟨by dsimp only; omega, ?_, .inr ⟨?_, ?_, by dsimp only; omega, by dsimp only; omega⟩, by dsimp only; omega, Vc.more i _ _ hI.vc (by omega) hvc⟩ (by dsimp only; omega)) (by (repeat first | exact LE.nil _ | refine LE.unk _ _ ?_ | refine LE.eq _ _ _ rfl ?_)) (LessH.refl _) (Nat.le_refl _)
             ·dsimp only; rw [hG]; exact Q0
             ·show V.view _ 0 _ = V.view _ 0 (vcL (lsO m.bd) i ++ [_]).length; rw [List.length_append]; rfl
             ·dsimp only; rw [hG]; show _ = some (Blk.mk ((vcL (lsO m.bd) i ++ [_]).map Ct.V) 2 44); rw [List.map_append]; exact Q0
           ·(apply D2 (vs := [.str _, _]) j2; exact Q0; exact N8; rfl; exact kb; rfl)
            refine D3 (es := [[.str _, _]]) j4 kz kb rfl rfl ?_
            (apply eap (s' := 40) (es := [[.str _, _]]) rfl rfl; exact Q0; exact j2; exact Q29; exact j2; exact kz; exact H5; exact Q6; exact Q4; exact Q4)
            refine E1 fun G hG => ?_
            refine B7 ?_
            have hvc : vcT mk bare rdM dgB n m.vw (vcL (lsO m.bd) i) ((lsO m.bd).getD i ⟨#[]⟩) (ctX ((lsO m.bd).getD i ⟨#[]⟩)) := ⟨P4 h10_4, h11_5.2, by omega, fun hne => by rw [hrl]; have hp : 0 < i := Nat.pos_of_ne_zero (fun e => hne (by rw [← List.length_eq_zero_iff, hrl, e])); omega⟩
            refine C6 (ih ⟨i + 1, .view (mm + 1 + 1) 0 ((vcL (lsO m.bd) i).length + 1), mm + 1 + 1, mm + 1 + 1 + 1, G⟩ ⟨by dsimp only; omega, ?_, .inr ⟨?_, ?_, by dsimp only; omega, by dsimp only; omega⟩, by dsimp only; omega, Vc.more i _ _ hI.vc (by omega) hvc⟩ (by dsimp only; omega)) (by (repeat first | exact LE.nil _ | refine LE.unk _ _ ?_ | refine LE.eq _ _ _ rfl ?_)) (LessH.refl _) (Nat.le_refl _)
            ·dsimp only; rw [hG]; exact Q0
            ·show V.view _ 0 _ = V.view _ 0 (vcL (lsO m.bd) i ++ [_]).length; rw [List.length_append]; rfl
            ·dsimp only; rw [hG]; show _ = some (Blk.mk ((vcL (lsO m.bd) i ++ [_]).map Ct.V) 2 44); rw [List.map_append]; exact Q0
         ·have hno : ¬ okV n m := H7 hls hI.vc (i := i) (by omega) (by
           rintro c ⟨e1, e2, e3, e4⟩
           have ec : ctX ((lsO m.bd).getD i ⟨#[]⟩) = c := by unfold ctX; rw [e1]
           first
           | (rw [e1] at h10_4; cases h10_4; done)
           | exact h11_5 (by rw [ec]; exact ⟨hn, e2⟩)
           | (rw [ec] at h11_13; omega)
           | (have q := e4 (fun e => by rw [e] at hrl; simp at hrl; omega); (try dsimp only at q); rw [hrl] at q; rw [ec] at h11_27; omega))
          rw [show vcO n m = [] from if_neg hno, decide_eq_false hno]
          exact C7 [] (A0 rfl (A0 rfl A1)) (SnapL.cons _ _ _ _ (.one _ _ .nslW) (SnapL.cons _ _ _ _ (.one _ _ (.bool _)) SnapL.nil))
        ·(apply est (u := .agg [.str _, _]) j3; exact Q0; exact N8; exact j4; exact kb; rfl)
         have hno : ¬ okV n m := H7 hls hI.vc (i := i) (by omega) (by
          rintro c ⟨e1, e2, e3, e4⟩
          have ec : ctX ((lsO m.bd).getD i ⟨#[]⟩) = c := by unfold ctX; rw [e1]
          first
          | (rw [e1] at h10_4; cases h10_4; done)
          | exact h11_5 (by rw [ec]; exact ⟨hn, e2⟩)
          | (rw [ec] at h11_13; omega)
          | (have q := e4 (fun e => by rw [e] at hrl; simp at hrl; omega); (try dsimp only at q); rw [hrl] at q; rw [ec] at h11_27; omega))
         rw [show vcO n m = [] from if_neg hno, decide_eq_false hno]
         exact C7 [] (A0 rfl (A0 rfl A1)) (SnapL.cons _ _ _ _ (.one _ _ .nslW) (SnapL.cons _ _ _ _ (.one _ _ (.bool _)) SnapL.nil))
       ·obtain ⟨hyes, he⟩ := okV_yes (by omega) (by omega) h1_11 hls (by omega) (i := i) (by omega) hI.vc
        rw [he, decide_eq_true hyes]
        exact C7 [b] (A0 rfl (A0 rfl A1)) (SnapL.cons _ _ _ _ (.one _ _ (.weak _ _ (A3 (b := ⟨(vcL (lsO m.bd) i).map Ct.V, 2, 44⟩) ((vcL (lsO m.bd) i).map (Ct.T false)) (List.mem_singleton.2 rfl) (by exact Q0) (rowsC _).symm (List.length_map ..).symm))) (SnapL.cons _ _ _ _ (.one _ _ (.bool _)) SnapL.nil))
    ·have hno : ¬ okV n m := by
      rintro ⟨_, out, _, _, _, l, e, h8, _⟩
      have el : lsO m.bd = l := by unfold lsO; rw [e]
      first
      | (rw [← el] at h8; rw [List.length_map] at h4_5; omega)
      | (rw [e] at h3_5; cases h3_5)
     rw [show vcO n m = [] from if_neg hno, decide_eq_false hno]
     exact C7 [] (A0 rfl (A0 rfl A1)) (SnapL.cons _ _ _ _ (.one _ _ .nslW) (SnapL.cons _ _ _ _ (.one _ _ (.bool _)) SnapL.nil))
   ·have hno : ¬ okV n m := by
     rintro ⟨q0, out, q1, q2, q3, _⟩
     first
     | omega
     | exact h1_11 ⟨q0, q3⟩
    rw [show vcO n m = [] from if_neg hno, decide_eq_false hno]
    exact C7 [] (A0 rfl (A0 rfl A1)) (SnapL.cons _ _ _ _ (.one _ _ .nslW) (SnapL.cons _ _ _ _ (.one _ _ (.bool _)) SnapL.nil))
open Go.V
set_option linter.unusedVariables false
set_option linter.unusedSimpArgs false
set_option maxRecDepth 20000
set_option maxHeartbeats 4000000
def cG (c : Ct) : Prop := 0 < c.ps.length ∧ 1 ≤ c.sq ∧ c.sq ≤ 8
theorem ct_good {n : Int} {c : Ct} (h : nodes n ∧ ctOK mk bare rdM dgB n c) : cG c := by
 have hp := O2 h
 obtain ⟨e1, e2, _⟩ := h.2.2.2.2 0 hp
 have e3 := e2.1.2.2.2.2.2
 rw [if_pos (by omega)] at e3
 exact ⟨hp, e3.1.1, e3.1.2⟩
theorem VC.good {n vw : Int} {l : List ByteArray} {i : Nat} {out : List Ct} (hn : nodes n) (h : VC n vw l i out) : ∀ j, j < i → cG (out.getD j Ct0) := by
 induction h with
 | nil => intro j hj; omega
 | more i out c h hi hc ih =>
  intro j hj
  have hl := h.len
  by_cases e : j < i
  ·have := ih j e
   rwa [show (out ++ [c]).getD j Ct0 = out.getD j Ct0 by simp [List.getElem?_append_left (show j < out.length by omega)]]
  ·rw [show (out ++ [c]).getD j Ct0 = c by simp [show j = out.length by omega]]
   exact ct_good ⟨hn, hc.2.1⟩
theorem C1 (n : Int) (m : Msg) : ∀ j, j < (vcO n m).length → cG ((vcO n m).getD j Ct0) := by
 intro j hj
 by_cases h : okV n m
 ·obtain ⟨hn, out, ho⟩ := h
  have e := (okV_is hn ho).2
  rw [e] at hj ⊢
  obtain ⟨_, _, _, l, _, _, hv⟩ := ho
  exact VC.good hn hv j (by have := hv.len; omega)
 ·rw [show vcO n m = [] from if_neg h] at hj; simp at hj
theorem J5 (n : Int) (m : Msg) : (vcO n m).length ≤ 8 := by
 by_cases h : okV n m
 ·obtain ⟨hn, out, ho⟩ := h
  rw [(okV_is hn ho).2]
  obtain ⟨_, _, _, l, _, h8, hv⟩ := ho
  have := hv.len
  omega
 ·rw [show vcO n m = [] from if_neg h]; exact Nat.zero_le _
def rnS (s : Pl) (cs : List Ct) : Nat → Pl
 | 0 => s
 | k + 1 => (rnS s cs k).step (cs.getD k Ct0)
noncomputable def plS (n : Int) (L : List Msg) : Nat → Pl
 | 0 => Pl0
 | i + 1 => rnS (plS n L i) (vcO n (L.getD i Msg0)) (vcO n (L.getD i Msg0)).length
structure PlG (s : Pl) : Prop where
 len : s.B.length = 9
 lo : 0 ≤ s.last
 hi : s.last ≤ 8
theorem PlG.zero : PlG Pl0 := ⟨rfl, by decide, by decide⟩
theorem PlG.step {s : Pl} {c : Ct} (h : PlG s) (hc : cG c) : PlG (s.step c) := by
 obtain ⟨h1, h2, h3⟩ := h
 obtain ⟨_, c1, c2⟩ := hc
 refine ⟨?_, ?_, ?_⟩
 ·unfold Pl.step; dsimp only; split
  ·rw [List.length_set]; exact h1
  ·exact h1
 ·show 0 ≤ max s.last c.sq; omega
 ·show max s.last c.sq ≤ 8; omega
theorem PlG.rn {s : Pl} {cs : List Ct} (h : PlG s) (hc : ∀ j, j < cs.length → cG (cs.getD j Ct0)) : ∀ k, k ≤ cs.length → PlG (rnS s cs k)
 | 0, _ => h
 | k + 1, hk => (PlG.rn h hc k (by omega)).step (hc k (by omega))
theorem PlG.pl (n : Int) (L : List Msg) : ∀ i, PlG (plS n L i)
 | 0 => PlG.zero
 | i + 1 => PlG.rn (PlG.pl n L i) (C1 n _) _ (Nat.le_refl _)
def rowB (c : Ct) : List V := if c.ps.length = 0 then [.str ⟨#[]⟩, .nsl] else c.V
theorem rowB_0 {c : Ct} (h : c.ps.length = 0) : rowB c = [.str ⟨#[]⟩, .nsl] := if_pos h
theorem X8 {c : Ct} (h : 0 < c.ps.length) : rowB c = [.str c.bd, .sl true false (c.ps.map Msg.T)] := if_neg (by omega)
theorem I0 {B : List Ct} {k : Nat} (h : k < B.length) : (B.map rowB)[k]? = some (rowB (B.getD k Ct0)) := by simp [h]
theorem J0 (B : List Ct) (k : Nat) {c : Ct} (h : 0 < c.ps.length) : (B.set k c).map rowB = (B.map rowB).set k [.str c.bd, .sl true false (c.ps.map Msg.T)] := by rw [List.map_set, X8 h]
theorem H4 {s : Pl} {c : Ct} (h : (s.B.getD c.sq.toNat Ct0).ps.length = 0 ∨ (s.B.getD c.sq.toNat Ct0).vw < c.vw) : (s.step c).B = s.B.set c.sq.toNat c := if_pos h
theorem I6 {s : Pl} {c : Ct} (h : ¬ ((s.B.getD c.sq.toNat Ct0).ps.length = 0 ∨ (s.B.getD c.sq.toNat Ct0).vw < c.vw)) : (s.step c).B = s.B := if_neg h
def ouP (s : Pl) : Nat → List ByteArray
 | 0 => []
 | k + 1 => ouP s k ++ [if (s.B.getD (k + 1) Ct0).ps.length = 0 then nullT else (s.B.getD (k + 1) Ct0).bd]
theorem L5 (s : Pl) : ∀ i, (ouP s i).length = i
 | 0 => rfl
 | i + 1 => by show (ouP s i ++ [_]).length = _; rw [List.length_append, L5 s i]; rfl
def okP (n vw : Int) (L : List Msg) (i : Nat) : Prop := okV n (L.getD i Msg0) ∧ (L.getD i Msg0).vw = vw ∧ (0 < i → (L.getD (i - 1) Msg0).fr < (L.getD i Msg0).fr)
def planOK (n vw : Int) (L : List Msg) : Prop := (L.length : Int) = quo n ∧ ∀ i, i < L.length → okP n vw L i
noncomputable instance dcPo (n vw : Int) (L : List Msg) : Decidable (planOK n vw L) := Classical.propDecidable _
noncomputable def plC (n vw : Int) (L : List Msg) : Int := if (L.length : Int) = quo n then if planOK n vw L then 0 else 12 else 19
noncomputable def plO (n vw : Int) (L : List Msg) : List ByteArray := if planOK n vw L then ouP (plS n L L.length) ((plS n L L.length).last + 1 - 1).toNat else []
open Go.V
set_option linter.unusedVariables false
set_option linter.unusedSimpArgs false
set_option maxRecDepth 20000
set_option maxHeartbeats 4000000
def BB (s : Pl) : Option Blk := some ⟨s.B.map rowB, 2, 44⟩
structure QS where
 i : Nat
 m : Nat
 g : Heap
structure QI (n vw : Int) (L : List Msg) (a : QS) : Prop where
 il : a.i ≤ L.length
 g0 : a.g 0 = BB (plS n L a.i)
 mm : 1 ≤ a.m
 ok : ∀ j, j < a.i → okP n vw L j
structure RI (s : Pl) (cs : List Ct) (a : QS) : Prop where
 il : a.i ≤ cs.length
 g0 : a.g 0 = BB (rnS s cs a.i)
 mm : 1 ≤ a.m
structure US where
 i : Nat
 o : V
 b : Nat
 m : Nat
 g : Heap
structure UI (s : Pl) (a : US) : Prop where
 il : a.i ≤ (s.last + 1 - 1).toNat
 g0 : a.g 0 = BB s
 mm : 1 ≤ a.m
 out : LsOK tV 1 9 1 (ouP s a.i) a.o a.b a.m a.g
theorem s65 (n vw : Int) (hn : nodes n) (L : List Msg) (b : Bool) : Pure En 65 [.one (.int .i64 n), .one (.int .i64 vw), .one (.sl b (L.map Msg.T))] [.one (.sl false ((plO n vw L).map tT)), .one (.int .i64 (plC n vw L))] := by
 have hl : (L.map Msg.T).length = L.length := List.length_map ..
 have hq := K5 hn
 refine Pure.of_ev (st := [18, 27]) Tryz.func65 rfl kb ?_
 refine C8 (s140 n hn) rfl rfl rfl ?_
 refine br ?_ ?_ <;> intro h1_4
 ·have hno : ¬ planOK n vw L := fun e => by have := e.1; omega
  rw [show plC n vw L = 19 from if_neg (fun e => by omega), show plO n vw L = [] from if_neg hno]
  exact C7 [] (A0 rfl (A0 rfl A1)) (SnapL.cons _ _ _ _ (.one _ _ .nslW) (SnapL.cons _ _ _ _ (.one _ _ (.int _ _)) SnapL.nil))
 ·refine emk (s' := 40) j6 kz ?_ ?_ ?_
  ·(first | omega | assumption | decide)
  ·(first | omega | assumption | decide)
  refine U7 fun g0 hg0 => ?_
  refine A9 (fun (a : QS) => [.int .i64 n, .int .i64 vw, .sl false b (L.map Msg.T), .unk, .unk, .unk, .unk, .unk, .view 0 0 9, .int .i64 (plS n L a.i).last, .unk, .unk, .unk, .unk, .unk, .unk, .unk, .unk, .unk, .unk, .unk, .unk, .unk, .unk, .unk, .unk, .sl false b (L.map Msg.T), .int .i64 (L.map Msg.T).length, .int .i64 a.i]) (fun (a : QS) => a.g) (fun (a : QS) => a.m) (fun (a : QS) => QI n vw L a) (fun (a : QS) => L.length - a.i) ⟨0, 1, g0⟩ ?_ ?_ ?_ ?_ ?_
  ·refine ⟨Nat.zero_le _, ?_, Nat.le_refl _, S9⟩
   dsimp only; rw [hg0]; exact Q0
  ·(repeat first | exact LE.nil _ | refine LE.unk _ _ ?_ | refine LE.eq _ _ _ rfl ?_)
  ·exact LessH.refl _
  ·exact Nat.le_refl _
  intro ⟨i, m, g⟩ hI ih
  have q0 := hI.il
  have hg0 := hI.g0
  have q4 := hI.mm
  have hok := hI.ok
  have hO := hI
  have ihO := ih
  unfold BB at hg0
  dsimp only at q0 hg0 q4 hok ⊢
  refine A7 (st := [18, 27]) ?_
  refine br ?_ ?_ <;> intro h6_0
  ·(refine C2 (D7 (by first | rfl | assumption | exact Q31) rfl ?_))
   (apply est (u := .agg [.int _ _, .int _ _, .int _ _, .int _ _, .str _, .str _, .str _]) j3; exact Q0; exact Q8; exact j4; exact kb; rfl)
   (apply D2 (vs := [.int _ _, .int _ _, .int _ _, .int _ _, .str _, .str _, .str _]) j2; exact Q0; exact Q8; rfl; exact kb; rfl)
   refine C8 (s70 n (L.getD i Msg0)) rfl rfl rfl ?_
   refine brB ?_ ?_ <;> intro h8_5
   ·refine A4 ?_ (by exact Q0) (by exact Q8)
    refine br ?_ ?_ <;> intro h9_6
    ·have hno : ¬ planOK n vw L := fun e => by
      obtain ⟨e1, e2, e3⟩ := e.2 i (by omega)
      first
      | exact absurd e1 (of_decide_eq_false h8_5)
      | omega
      | (have := e3 (by omega); omega)
     rw [show plC n vw L = 12 from (if_pos (by omega)).trans (if_neg hno), show plO n vw L = [] from if_neg hno]
     exact C7 [] (A0 rfl (A0 rfl A1)) (SnapL.cons _ _ _ _ (.one _ _ .nslW) (SnapL.cons _ _ _ _ (.one _ _ (.int _ _)) SnapL.nil))
    ·refine br ?_ ?_ <;> intro h9_10
     ·refine B7 ?_
      (refine C2 (D7 (by first | rfl | assumption | exact Q31) rfl ?_))
      refine A4 ?_ (by exact Q0) (by exact Q8)
      refine br ?_ ?_ <;> intro h9_20
      ·have hno : ¬ planOK n vw L := fun e => by
        obtain ⟨e1, e2, e3⟩ := e.2 i (by omega)
        first
        | exact absurd e1 (of_decide_eq_false h8_5)
        | omega
        | (have := e3 (by omega); omega)
       rw [show plC n vw L = 12 from (if_pos (by omega)).trans (if_neg hno), show plO n vw L = [] from if_neg hno]
       exact C7 [] (A0 rfl (A0 rfl A1)) (SnapL.cons _ _ _ _ (.one _ _ .nslW) (SnapL.cons _ _ _ _ (.one _ _ (.int _ _)) SnapL.nil))
      ·have hc8 := J5 n (L.getD i Msg0)
       have hlc : ((vcO n (L.getD i Msg0)).map (Ct.T false)).length = (vcO n (L.getD i Msg0)).length := List.length_map ..
       refine U7 fun g1 hg1 => ?_
       refine A9 (fun (a : QS) => [.int .i64 n, .int .i64 vw, .sl false b (L.map Msg.T), .unk, .unk, .unk, .unk, .unk, .view 0 0 9, .int .i64 (rnS (plS n L i) (vcO n (L.getD i Msg0)) a.i).last, .unk, .unk, .unk, .unk, .unk, .unk, .unk, .unk, .unk, .unk, .unk, .unk, .unk, .unk, .unk, .unk, .sl false b (L.map Msg.T), .int .i64 (L.map Msg.T).length, .int .i64 i, .unk, .unk, .unk, .unk, .unk, .unk, .unk, .unk, .unk, .unk, .unk, .unk, .unk, .unk, .unk, .unk, .unk, .unk, .unk, .unk, .unk, .unk, .unk, .unk, .unk, .unk, .unk, .unk, .unk, .unk, .unk, .unk, .unk, .sl true false ((vcO n (L.getD i Msg0)).map (Ct.T false)), .int .i64 ((vcO n (L.getD i Msg0)).map (Ct.T false)).length, .int .i64 a.i]) (fun (a : QS) => a.g) (fun (a : QS) => a.m) (fun (a : QS) => RI (plS n L i) (vcO n (L.getD i Msg0)) a) (fun (a : QS) => (vcO n (L.getD i Msg0)).length - a.i) ⟨0, m + 1, g1⟩ ?_ ?_ ?_ ?_ ?_
       ·refine ⟨Nat.zero_le _, ?_, by dsimp only; omega⟩
        dsimp only; rw [hg1]; exact Q0
       ·(repeat first | exact LE.nil _ | refine LE.unk _ _ ?_ | refine LE.eq _ _ _ rfl ?_)
       ·exact LessH.refl _
       ·exact Nat.le_refl _
       intro ⟨k, m2, g2⟩ hI ih
       have r0 := hI.il
       have hg2 := hI.g0
       have r4 := hI.mm
       unfold BB at hg2
       dsimp only at r0 hg2 r4 ⊢
       have hpg := PlG.rn (PlG.pl n L i) (C1 n (L.getD i Msg0)) k r0
       have hp9 := hpg.len
       have hl9 : ((rnS (plS n L i) (vcO n (L.getD i Msg0)) k).B.map rowB).length = 9 := by rw [List.length_map]; exact hp9
       by_cases hz : ((rnS (plS n L i) (vcO n (L.getD i Msg0)) k).B.getD ((vcO n (L.getD i Msg0)).getD k Ct0).sq.toNat Ct0).ps.length = 0
       ·skip
        skip
        refine A7 (st := [18, 27]) ?_
        refine br ?_ ?_ <;> intro h12_0
        ·have hkl : k < (vcO n (L.getD i Msg0)).length := by omega
         have hgd := C1 n (L.getD i Msg0) k hkl
         have hgd2 := hgd.2
         have hrow : ((rnS (plS n L i) (vcO n (L.getD i Msg0)) k).B.map rowB)[0 + ((vcO n (L.getD i Msg0)).getD k Ct0).sq.toNat]? = some (rowB ((rnS (plS n L i) (vcO n (L.getD i Msg0)) k).B.getD ((vcO n (L.getD i Msg0)).getD k Ct0).sq.toNat Ct0)) := by rw [Nat.zero_add]; exact I0 (by omega)
         rw [rowB_0 hz] at hrow
         (refine C2 (D7 (by first | rfl | assumption | exact Q31) rfl ?_))
         (apply est (u := .agg [.str _, _]) j3; exact Q0; exact Q8; exact j4; exact kb; rfl)
         (apply D2 (vs := [.str _, _]) j2; exact Q0; exact Q8; rfl; exact kb; rfl)
         refine C8 (s84 ((vcO n (L.getD i Msg0)).getD k Ct0) false hgd.1) rfl rfl rfl ?_
         (apply D2 (vs := [.str _, _]) j2; exact Q0; exact Q8; rfl; exact kb; rfl)
         refine C8 (s84 ((vcO n (L.getD i Msg0)).getD k Ct0) false hgd.1) rfl rfl rfl ?_
         (refine mem (by exact Q0) ⟨rfl, C2 ?_⟩)
         (apply D2 (vs := [.str _, _]) j2; exact Q0; exact Q8; rfl; exact kb; rfl)
         (apply est (u := .agg [.str _, _]) j3; exact Q0; exact Q8; exact j4; exact kb; rfl)
         refine A4 ?_ (by exact Q0) (by exact Q8)
         refine br ?_ (fun h => absurd (rfl) h)
         intro h16_3
         (apply D2 (vs := [.str _, _]) j2; exact Q0; exact Q8; rfl; exact kb; rfl)
         refine C8 (s84 ((vcO n (L.getD i Msg0)).getD k Ct0) false hgd.1) rfl rfl rfl ?_
         (apply D2 (vs := [.str _, _]) j2; exact Q0; exact Q8; rfl; exact kb; rfl)
         (refine mem (by exact Q0) ⟨rfl, C2 ?_⟩)
         (apply est (u := .agg [.str _, _]) j3; exact Q0; exact Q8; exact j4; exact kb; rfl)
         refine F6 ?_
         refine E1 fun G hG => ?_
         refine B7 ?_
         first
         | (refine C6 (ih ⟨k + 1, m2 + 1 + 1, G⟩ ⟨by dsimp only; omega, ?_, by dsimp only; omega⟩ (by dsimp only; omega)) (by (repeat first | exact LE.nil _ | refine LE.unk _ _ ?_ | refine LE.eq _ _ _ rfl ?_)) (LessH.refl _) (Nat.le_refl _)
            dsimp only
            show G 0 = some ⟨((rnS (plS n L i) (vcO n (L.getD i Msg0)) k).step ((vcO n (L.getD i Msg0)).getD k Ct0)).B.map rowB, 2, 44⟩
            first
            | (rw [H4 (by first | exact .inl hz | exact .inr (by omega)), J0 _ _ hgd.1, hG]; (simp (disch := omega) only [↓app0, ↓appC, ↓updS, ↓updN, Nat.zero_add]); rfl)
            | (rw [I6 (by rintro (e | e) <;> omega), hG]; exact Q0))
        ·refine B7 ?_
         have hip : okP n vw L i := ⟨of_decide_eq_true h8_5, by omega, fun _ => by omega⟩
         obtain rfl : k = (vcO n (L.getD i Msg0)).length := by omega
         refine C6 (ihO ⟨i + 1, m2, g2⟩ ⟨by dsimp only; omega, hI.g0, hI.mm, fun j hj => ?_⟩ (by dsimp only; omega)) (by (repeat first | exact LE.nil _ | refine LE.unk _ _ ?_ | refine LE.eq _ _ _ rfl ?_)) (LessH.refl _) (Nat.le_refl _)
         rcases Nat.lt_succ_iff_lt_or_eq.1 hj with q | q
         ·exact hok j q
         ·rw [q]; exact hip
       ·skip
        skip
        refine A7 (st := [18, 27]) ?_
        refine br ?_ ?_ <;> intro h12_0
        ·have hkl : k < (vcO n (L.getD i Msg0)).length := by omega
         have hgd := C1 n (L.getD i Msg0) k hkl
         have hgd2 := hgd.2
         have hrow : ((rnS (plS n L i) (vcO n (L.getD i Msg0)) k).B.map rowB)[0 + ((vcO n (L.getD i Msg0)).getD k Ct0).sq.toNat]? = some (rowB ((rnS (plS n L i) (vcO n (L.getD i Msg0)) k).B.getD ((vcO n (L.getD i Msg0)).getD k Ct0).sq.toNat Ct0)) := by rw [Nat.zero_add]; exact I0 (by omega)
         rw [X8 (Nat.pos_of_ne_zero hz)] at hrow
         have hop := Nat.pos_of_ne_zero hz
         have hlo : (((rnS (plS n L i) (vcO n (L.getD i Msg0)) k).B.getD ((vcO n (L.getD i Msg0)).getD k Ct0).sq.toNat Ct0).ps.map Msg.T).length = ((rnS (plS n L i) (vcO n (L.getD i Msg0)) k).B.getD ((vcO n (L.getD i Msg0)).getD k Ct0).sq.toNat Ct0).ps.length := List.length_map ..
         (refine C2 (D7 (by first | rfl | assumption | exact Q31) rfl ?_))
         (apply est (u := .agg [.str _, _]) j3; exact Q0; exact Q8; exact j4; exact kb; rfl)
         (apply D2 (vs := [.str _, _]) j2; exact Q0; exact Q8; rfl; exact kb; rfl)
         refine C8 (s84 ((vcO n (L.getD i Msg0)).getD k Ct0) false hgd.1) rfl rfl rfl ?_
         (apply D2 (vs := [.str _, _]) j2; exact Q0; exact Q8; rfl; exact kb; rfl)
         refine C8 (s84 ((vcO n (L.getD i Msg0)).getD k Ct0) false hgd.1) rfl rfl rfl ?_
         (refine mem (by exact Q0) ⟨rfl, C2 ?_⟩)
         (apply D2 (vs := [.str _, _]) j2; exact Q0; exact Q8; rfl; exact kb; rfl)
         (apply est (u := .agg [.str _, _]) j3; exact Q0; exact Q8; exact j4; exact kb; rfl)
         refine A4 ?_ (by exact Q0) (by exact Q8)
         refine br (fun h => absurd h ((by omega))) ?_
         intro h16_3
         (apply D2 (vs := [.str _, _]) j2; exact Q0; exact Q8; rfl; exact kb; rfl)
         refine C8 (s85 ((rnS (plS n L i) (vcO n (L.getD i Msg0)) k).B.getD ((vcO n (L.getD i Msg0)).getD k Ct0).sq.toNat Ct0) false hop) rfl rfl rfl ?_
         (apply D2 (vs := [.str _, _]) j2; exact Q0; exact Q8; rfl; exact kb; rfl)
         refine C8 (s85 ((vcO n (L.getD i Msg0)).getD k Ct0) false hgd.1) rfl rfl rfl ?_
         refine br ?_ ?_ <;> intro h16_9
         ·(apply D2 (vs := [.str _, _]) j2; exact Q0; exact Q8; rfl; exact kb; rfl)
          refine C8 (s84 ((vcO n (L.getD i Msg0)).getD k Ct0) false hgd.1) rfl rfl rfl ?_
          (apply D2 (vs := [.str _, _]) j2; exact Q0; exact Q8; rfl; exact kb; rfl)
          (refine mem (by exact Q0) ⟨rfl, C2 ?_⟩)
          (apply est (u := .agg [.str _, _]) j3; exact Q0; exact Q8; exact j4; exact kb; rfl)
          refine F6 ?_
          refine E1 fun G hG => ?_
          refine B7 ?_
          first
          | (refine C6 (ih ⟨k + 1, m2 + 1 + 1, G⟩ ⟨by dsimp only; omega, ?_, by dsimp only; omega⟩ (by dsimp only; omega)) (by (repeat first | exact LE.nil _ | refine LE.unk _ _ ?_ | refine LE.eq _ _ _ rfl ?_)) (LessH.refl _) (Nat.le_refl _)
             dsimp only
             show G 0 = some ⟨((rnS (plS n L i) (vcO n (L.getD i Msg0)) k).step ((vcO n (L.getD i Msg0)).getD k Ct0)).B.map rowB, 2, 44⟩
             first
             | (rw [H4 (by first | exact .inl hz | exact .inr (by omega)), J0 _ _ hgd.1, hG]; (simp (disch := omega) only [↓app0, ↓appC, ↓updS, ↓updN, Nat.zero_add]); rfl)
             | (rw [I6 (by rintro (e | e) <;> omega), hG]; exact Q0))
         ·refine E1 fun G hG => ?_
          refine B7 ?_
          first
          | (refine C6 (ih ⟨k + 1, m2 + 1 + 1, G⟩ ⟨by dsimp only; omega, ?_, by dsimp only; omega⟩ (by dsimp only; omega)) (by (repeat first | exact LE.nil _ | refine LE.unk _ _ ?_ | refine LE.eq _ _ _ rfl ?_)) (LessH.refl _) (Nat.le_refl _)
             dsimp only
             show G 0 = some ⟨((rnS (plS n L i) (vcO n (L.getD i Msg0)) k).step ((vcO n (L.getD i Msg0)).getD k Ct0)).B.map rowB, 2, 44⟩
             first
             | (rw [H4 (by first | exact .inl hz | exact .inr (by omega)), J0 _ _ hgd.1, hG]; (simp (disch := omega) only [↓app0, ↓appC, ↓updS, ↓updN, Nat.zero_add]); rfl)
             | (rw [I6 (by rintro (e | e) <;> omega), hG]; exact Q0))
        ·refine B7 ?_
         have hip : okP n vw L i := ⟨of_decide_eq_true h8_5, by omega, fun _ => by omega⟩
         obtain rfl : k = (vcO n (L.getD i Msg0)).length := by omega
         refine C6 (ihO ⟨i + 1, m2, g2⟩ ⟨by dsimp only; omega, hI.g0, hI.mm, fun j hj => ?_⟩ (by dsimp only; omega)) (by (repeat first | exact LE.nil _ | refine LE.unk _ _ ?_ | refine LE.eq _ _ _ rfl ?_)) (LessH.refl _) (Nat.le_refl _)
         rcases Nat.lt_succ_iff_lt_or_eq.1 hj with q | q
         ·exact hok j q
         ·rw [q]; exact hip
     ·have hc8 := J5 n (L.getD i Msg0)
      have hlc : ((vcO n (L.getD i Msg0)).map (Ct.T false)).length = (vcO n (L.getD i Msg0)).length := List.length_map ..
      refine U7 fun g1 hg1 => ?_
      refine A9 (fun (a : QS) => [.int .i64 n, .int .i64 vw, .sl false b (L.map Msg.T), .unk, .unk, .unk, .unk, .unk, .view 0 0 9, .int .i64 (rnS (plS n L i) (vcO n (L.getD i Msg0)) a.i).last, .unk, .unk, .unk, .unk, .unk, .unk, .unk, .unk, .unk, .unk, .unk, .unk, .unk, .unk, .unk, .unk, .sl false b (L.map Msg.T), .int .i64 (L.map Msg.T).length, .int .i64 i, .unk, .unk, .unk, .unk, .unk, .unk, .unk, .unk, .unk, .unk, .unk, .unk, .unk, .unk, .unk, .unk, .unk, .unk, .unk, .unk, .unk, .unk, .unk, .unk, .unk, .unk, .unk, .unk, .unk, .unk, .unk, .unk, .unk, .sl true false ((vcO n (L.getD i Msg0)).map (Ct.T false)), .int .i64 ((vcO n (L.getD i Msg0)).map (Ct.T false)).length, .int .i64 a.i]) (fun (a : QS) => a.g) (fun (a : QS) => a.m) (fun (a : QS) => RI (plS n L i) (vcO n (L.getD i Msg0)) a) (fun (a : QS) => (vcO n (L.getD i Msg0)).length - a.i) ⟨0, m + 1, g1⟩ ?_ ?_ ?_ ?_ ?_
      ·refine ⟨Nat.zero_le _, ?_, by dsimp only; omega⟩
       dsimp only; rw [hg1]; exact Q0
      ·(repeat first | exact LE.nil _ | refine LE.unk _ _ ?_ | refine LE.eq _ _ _ rfl ?_)
      ·exact LessH.refl _
      ·exact Nat.le_refl _
      intro ⟨k, m2, g2⟩ hI ih
      have r0 := hI.il
      have hg2 := hI.g0
      have r4 := hI.mm
      unfold BB at hg2
      dsimp only at r0 hg2 r4 ⊢
      have hpg := PlG.rn (PlG.pl n L i) (C1 n (L.getD i Msg0)) k r0
      have hp9 := hpg.len
      have hl9 : ((rnS (plS n L i) (vcO n (L.getD i Msg0)) k).B.map rowB).length = 9 := by rw [List.length_map]; exact hp9
      by_cases hz : ((rnS (plS n L i) (vcO n (L.getD i Msg0)) k).B.getD ((vcO n (L.getD i Msg0)).getD k Ct0).sq.toNat Ct0).ps.length = 0
      ·skip
       skip
       refine A7 (st := [18, 27]) ?_
       refine br ?_ ?_ <;> intro h12_0
       ·have hkl : k < (vcO n (L.getD i Msg0)).length := by omega
        have hgd := C1 n (L.getD i Msg0) k hkl
        have hgd2 := hgd.2
        have hrow : ((rnS (plS n L i) (vcO n (L.getD i Msg0)) k).B.map rowB)[0 + ((vcO n (L.getD i Msg0)).getD k Ct0).sq.toNat]? = some (rowB ((rnS (plS n L i) (vcO n (L.getD i Msg0)) k).B.getD ((vcO n (L.getD i Msg0)).getD k Ct0).sq.toNat Ct0)) := by rw [Nat.zero_add]; exact I0 (by omega)
        rw [rowB_0 hz] at hrow
        (refine C2 (D7 (by first | rfl | assumption | exact Q31) rfl ?_))
        (apply est (u := .agg [.str _, _]) j3; exact Q0; exact Q8; exact j4; exact kb; rfl)
        (apply D2 (vs := [.str _, _]) j2; exact Q0; exact Q8; rfl; exact kb; rfl)
        refine C8 (s84 ((vcO n (L.getD i Msg0)).getD k Ct0) false hgd.1) rfl rfl rfl ?_
        (apply D2 (vs := [.str _, _]) j2; exact Q0; exact Q8; rfl; exact kb; rfl)
        refine C8 (s84 ((vcO n (L.getD i Msg0)).getD k Ct0) false hgd.1) rfl rfl rfl ?_
        (refine mem (by exact Q0) ⟨rfl, C2 ?_⟩)
        (apply D2 (vs := [.str _, _]) j2; exact Q0; exact Q8; rfl; exact kb; rfl)
        (apply est (u := .agg [.str _, _]) j3; exact Q0; exact Q8; exact j4; exact kb; rfl)
        refine A4 ?_ (by exact Q0) (by exact Q8)
        refine br ?_ (fun h => absurd (rfl) h)
        intro h16_3
        (apply D2 (vs := [.str _, _]) j2; exact Q0; exact Q8; rfl; exact kb; rfl)
        refine C8 (s84 ((vcO n (L.getD i Msg0)).getD k Ct0) false hgd.1) rfl rfl rfl ?_
        (apply D2 (vs := [.str _, _]) j2; exact Q0; exact Q8; rfl; exact kb; rfl)
        (refine mem (by exact Q0) ⟨rfl, C2 ?_⟩)
        (apply est (u := .agg [.str _, _]) j3; exact Q0; exact Q8; exact j4; exact kb; rfl)
        refine F6 ?_
        refine E1 fun G hG => ?_
        refine B7 ?_
        first
        | (refine C6 (ih ⟨k + 1, m2 + 1 + 1, G⟩ ⟨by dsimp only; omega, ?_, by dsimp only; omega⟩ (by dsimp only; omega)) (by (repeat first | exact LE.nil _ | refine LE.unk _ _ ?_ | refine LE.eq _ _ _ rfl ?_)) (LessH.refl _) (Nat.le_refl _)
           dsimp only
           show G 0 = some ⟨((rnS (plS n L i) (vcO n (L.getD i Msg0)) k).step ((vcO n (L.getD i Msg0)).getD k Ct0)).B.map rowB, 2, 44⟩
           first
           | (rw [H4 (by first | exact .inl hz | exact .inr (by omega)), J0 _ _ hgd.1, hG]; (simp (disch := omega) only [↓app0, ↓appC, ↓updS, ↓updN, Nat.zero_add]); rfl)
           | (rw [I6 (by rintro (e | e) <;> omega), hG]; exact Q0))
       ·refine B7 ?_
        have hip : okP n vw L i := ⟨of_decide_eq_true h8_5, by omega, fun _ => by omega⟩
        obtain rfl : k = (vcO n (L.getD i Msg0)).length := by omega
        refine C6 (ihO ⟨i + 1, m2, g2⟩ ⟨by dsimp only; omega, hI.g0, hI.mm, fun j hj => ?_⟩ (by dsimp only; omega)) (by (repeat first | exact LE.nil _ | refine LE.unk _ _ ?_ | refine LE.eq _ _ _ rfl ?_)) (LessH.refl _) (Nat.le_refl _)
        rcases Nat.lt_succ_iff_lt_or_eq.1 hj with q | q
        ·exact hok j q
        ·rw [q]; exact hip
      ·skip
       skip
       refine A7 (st := [18, 27]) ?_
       refine br ?_ ?_ <;> intro h12_0
       ·have hkl : k < (vcO n (L.getD i Msg0)).length := by omega
        have hgd := C1 n (L.getD i Msg0) k hkl
        have hgd2 := hgd.2
        have hrow : ((rnS (plS n L i) (vcO n (L.getD i Msg0)) k).B.map rowB)[0 + ((vcO n (L.getD i Msg0)).getD k Ct0).sq.toNat]? = some (rowB ((rnS (plS n L i) (vcO n (L.getD i Msg0)) k).B.getD ((vcO n (L.getD i Msg0)).getD k Ct0).sq.toNat Ct0)) := by rw [Nat.zero_add]; exact I0 (by omega)
        rw [X8 (Nat.pos_of_ne_zero hz)] at hrow
        have hop := Nat.pos_of_ne_zero hz
        have hlo : (((rnS (plS n L i) (vcO n (L.getD i Msg0)) k).B.getD ((vcO n (L.getD i Msg0)).getD k Ct0).sq.toNat Ct0).ps.map Msg.T).length = ((rnS (plS n L i) (vcO n (L.getD i Msg0)) k).B.getD ((vcO n (L.getD i Msg0)).getD k Ct0).sq.toNat Ct0).ps.length := List.length_map ..
        (refine C2 (D7 (by first | rfl | assumption | exact Q31) rfl ?_))
        (apply est (u := .agg [.str _, _]) j3; exact Q0; exact Q8; exact j4; exact kb; rfl)
        (apply D2 (vs := [.str _, _]) j2; exact Q0; exact Q8; rfl; exact kb; rfl)
        refine C8 (s84 ((vcO n (L.getD i Msg0)).getD k Ct0) false hgd.1) rfl rfl rfl ?_
        (apply D2 (vs := [.str _, _]) j2; exact Q0; exact Q8; rfl; exact kb; rfl)
        refine C8 (s84 ((vcO n (L.getD i Msg0)).getD k Ct0) false hgd.1) rfl rfl rfl ?_
        (refine mem (by exact Q0) ⟨rfl, C2 ?_⟩)
        (apply D2 (vs := [.str _, _]) j2; exact Q0; exact Q8; rfl; exact kb; rfl)
        (apply est (u := .agg [.str _, _]) j3; exact Q0; exact Q8; exact j4; exact kb; rfl)
        refine A4 ?_ (by exact Q0) (by exact Q8)
        refine br (fun h => absurd h ((by omega))) ?_
        intro h16_3
        (apply D2 (vs := [.str _, _]) j2; exact Q0; exact Q8; rfl; exact kb; rfl)
        refine C8 (s85 ((rnS (plS n L i) (vcO n (L.getD i Msg0)) k).B.getD ((vcO n (L.getD i Msg0)).getD k Ct0).sq.toNat Ct0) false hop) rfl rfl rfl ?_
        (apply D2 (vs := [.str _, _]) j2; exact Q0; exact Q8; rfl; exact kb; rfl)
        refine C8 (s85 ((vcO n (L.getD i Msg0)).getD k Ct0) false hgd.1) rfl rfl rfl ?_
        refine br ?_ ?_ <;> intro h16_9
        ·(apply D2 (vs := [.str _, _]) j2; exact Q0; exact Q8; rfl; exact kb; rfl)
         refine C8 (s84 ((vcO n (L.getD i Msg0)).getD k Ct0) false hgd.1) rfl rfl rfl ?_
         (apply D2 (vs := [.str _, _]) j2; exact Q0; exact Q8; rfl; exact kb; rfl)
         (refine mem (by exact Q0) ⟨rfl, C2 ?_⟩)
         (apply est (u := .agg [.str _, _]) j3; exact Q0; exact Q8; exact j4; exact kb; rfl)
         refine F6 ?_
         refine E1 fun G hG => ?_
         refine B7 ?_
         first
         | (refine C6 (ih ⟨k + 1, m2 + 1 + 1, G⟩ ⟨by dsimp only; omega, ?_, by dsimp only; omega⟩ (by dsimp only; omega)) (by (repeat first | exact LE.nil _ | refine LE.unk _ _ ?_ | refine LE.eq _ _ _ rfl ?_)) (LessH.refl _) (Nat.le_refl _)
            dsimp only
            show G 0 = some ⟨((rnS (plS n L i) (vcO n (L.getD i Msg0)) k).step ((vcO n (L.getD i Msg0)).getD k Ct0)).B.map rowB, 2, 44⟩
            first
            | (rw [H4 (by first | exact .inl hz | exact .inr (by omega)), J0 _ _ hgd.1, hG]; (simp (disch := omega) only [↓app0, ↓appC, ↓updS, ↓updN, Nat.zero_add]); rfl)
            | (rw [I6 (by rintro (e | e) <;> omega), hG]; exact Q0))
        ·refine E1 fun G hG => ?_
         refine B7 ?_
         first
         | (refine C6 (ih ⟨k + 1, m2 + 1 + 1, G⟩ ⟨by dsimp only; omega, ?_, by dsimp only; omega⟩ (by dsimp only; omega)) (by (repeat first | exact LE.nil _ | refine LE.unk _ _ ?_ | refine LE.eq _ _ _ rfl ?_)) (LessH.refl _) (Nat.le_refl _)
            dsimp only
            show G 0 = some ⟨((rnS (plS n L i) (vcO n (L.getD i Msg0)) k).step ((vcO n (L.getD i Msg0)).getD k Ct0)).B.map rowB, 2, 44⟩
            first
            | (rw [H4 (by first | exact .inl hz | exact .inr (by omega)), J0 _ _ hgd.1, hG]; (simp (disch := omega) only [↓app0, ↓appC, ↓updS, ↓updN, Nat.zero_add]); rfl)
            | (rw [I6 (by rintro (e | e) <;> omega), hG]; exact Q0))
       ·refine B7 ?_
        have hip : okP n vw L i := ⟨of_decide_eq_true h8_5, by omega, fun _ => by omega⟩
        obtain rfl : k = (vcO n (L.getD i Msg0)).length := by omega
        refine C6 (ihO ⟨i + 1, m2, g2⟩ ⟨by dsimp only; omega, hI.g0, hI.mm, fun j hj => ?_⟩ (by dsimp only; omega)) (by (repeat first | exact LE.nil _ | refine LE.unk _ _ ?_ | refine LE.eq _ _ _ rfl ?_)) (LessH.refl _) (Nat.le_refl _)
        rcases Nat.lt_succ_iff_lt_or_eq.1 hj with q | q
        ·exact hok j q
        ·rw [q]; exact hip
   ·have hno : ¬ planOK n vw L := fun e => by
     obtain ⟨e1, e2, e3⟩ := e.2 i (by omega)
     first
     | exact absurd e1 (of_decide_eq_false h8_5)
     | omega
     | (have := e3 (by omega); omega)
    rw [show plC n vw L = 12 from (if_pos (by omega)).trans (if_neg hno), show plO n vw L = [] from if_neg hno]
    exact C7 [] (A0 rfl (A0 rfl A1)) (SnapL.cons _ _ _ _ (.one _ _ .nslW) (SnapL.cons _ _ _ _ (.one _ _ (.int _ _)) SnapL.nil))
  ·obtain rfl : i = L.length := by omega
   have hpo : planOK n vw L := ⟨by omega, hok⟩
   have hpg := PlG.pl n L L.length
   have hp9 := hpg.len
   have hl9 : ((plS n L L.length).B.map rowB).length = 9 := by rw [List.length_map]; exact hp9
   have hlo9 := hpg.lo
   have hhi9 := hpg.hi
   refine B7 ?_
   (apply eslv j3; exact Q0; exact j3; (first | omega | assumption | decide); (first | omega | assumption | decide); (first | omega | assumption | decide))
   refine A9 (fun (a : US) => [.unk, .unk, .unk, .unk, .unk, .unk, .unk, .unk, .unk, .unk, .unk, .unk, .unk, .unk, .unk, .unk, .unk, a.o, .unk, .unk, .unk, .unk, .unk, .unk, .unk, .unk, .unk, .unk, .unk, .unk, .unk, .unk, .unk, .unk, .unk, .unk, .unk, .unk, .unk, .unk, .unk, .unk, .unk, .unk, .unk, .unk, .unk, .unk, .unk, .unk, .unk, .unk, .unk, .unk, .unk, .unk, .unk, .unk, .unk, .unk, .unk, .unk, .unk, .unk, .unk, .unk, .unk, .unk, .unk, .unk, .unk, .unk, .unk, .unk, .unk, .unk, .unk, .unk, .unk, .unk, .unk, .unk, .unk, .unk, .unk, .unk, .unk, .unk, .unk, .unk, .unk, .unk, .unk, .unk, .unk, .unk, .unk, .unk, .view 0 1 (((plS n L L.length).last + 1).toNat - 1), .int .i64 (((plS n L L.length).last + 1).toNat - 1 : Nat), .int .i64 a.i]) (fun (a : US) => a.g) (fun (a : US) => a.m) (fun (a : US) => UI (plS n L L.length) a) (fun (a : US) => ((plS n L L.length).last + 1 - 1).toNat - a.i) ⟨0, .nsl, 0, m, g⟩ ?_ ?_ ?_ ?_ ?_
   ·exact ⟨Nat.zero_le _, hI.g0, hI.mm, .inl ⟨rfl, rfl⟩⟩
   ·(repeat first | exact LE.nil _ | refine LE.unk _ _ ?_ | refine LE.eq _ _ _ rfl ?_)
   ·exact LessH.refl _
   ·exact Nat.le_refl _
   intro ⟨k, o, bb, m, g3⟩ hI ih
   have r0 := hI.il
   have hg3 := hI.g0
   have r4 := hI.mm
   unfold BB at hg3
   dsimp only at r0 hg3 r4 ⊢
   have hrl := L5 (plS n L L.length) k
   have hl9b : ((plS n L L.length).B.map rowB).length = 9 := by rw [List.length_map]; exact hp9
   by_cases hz : ((plS n L L.length).B.getD (k + 1) Ct0).ps.length = 0
   all_goals rcases hI.out with ⟨e0, e1⟩ | ⟨e1, hbO2, hbO⟩
   all_goals dsimp only at e1
   ·skip
    obtain rfl : k = 0 := by rw [e0] at hrl; exact hrl.symm
    subst e1
    refine A7 (st := [18, 27]) ?_
    refine br ?_ ?_ <;> intro h22_0
    ·have hkl : 0 < ((plS n L L.length).last + 1 - 1).toNat := by omega
     have hrow : ((plS n L L.length).B.map rowB)[0 + 1 + 0]? = some (rowB ((plS n L L.length).B.getD (0 + 1) Ct0)) := by rw [show 0 + 1 + 0 = 0 + 1 by omega]; exact I0 (by omega)
     rw [rowB_0 hz] at hrow
     (refine mem (by exact Q0) ⟨rfl, C2 ?_⟩)
     (apply D2 (vs := [.str _, _]) j2; exact Q0; exact Q8; rfl; exact kb; rfl)
     (apply est (u := .agg [.str _, _]) j3; exact Q0; exact Q8; exact j4; exact kb; rfl)
     refine A4 ?_ (by exact Q0) (by exact Q8)
     refine br ?_ (fun h => absurd (rfl) h)
     intro h24_3
     refine D3 (es := [[.str _]]) j4 kz kb rfl rfl ?_
     (apply ean (s' := 16) (es := [[.str _]]) rfl j3 kz; exact H5; exact Q6; exact Q4; exact Q4; exact Q4)
     refine E1 fun G hG => ?_
     refine B7 ?_
     refine C6 (ih ⟨0 + 1, .view (m + 1 + 1) 0 1, m + 1 + 1, m + 1 + 1 + 1, G⟩ ⟨by dsimp only; omega, ?_, by dsimp only; omega, .inr ⟨?_, ?_, by dsimp only; omega, by dsimp only; omega⟩⟩ (by dsimp only; omega)) (by (try dsimp only); (repeat first | exact LE.nil _ | refine LE.unk _ _ ?_ | refine LE.eq _ _ _ rfl ?_)) (LessH.refl _) (Nat.le_refl _)
     ·dsimp only; rw [hG]; exact Q0
     ·show V.view _ 0 _ = V.view _ 0 (ouP (plS n L L.length) 0 ++ [_]).length; rw [List.length_append]; rfl
     ·dsimp only; rw [hG]; show _ = some (Blk.mk ((ouP (plS n L L.length) 0 ++ [if _ then _ else _]).map tV) 1 9); rw [List.map_append, if_pos hz]; exact Q0
    ·have hek : 0 = ((plS n L L.length).last + 1 - 1).toNat := by omega
     rw [show plC n vw L = 0 from (if_pos (by omega)).trans (if_pos hpo), show plO n vw L = ouP (plS n L L.length) 0 from (if_pos hpo).trans (by rw [← hek])]
     refine C7 [] (A0 rfl (A0 rfl A1)) (SnapL.cons _ _ _ _ (.one _ _ .nslW) (SnapL.cons _ _ _ _ (.one _ _ (.int _ _)) SnapL.nil))
   ·skip
    dsimp only at hbO2 hbO
    subst e1
    refine A7 (st := [18, 27]) ?_
    refine br ?_ ?_ <;> intro h22_0
    ·have hkl : k < ((plS n L L.length).last + 1 - 1).toNat := by omega
     have hrow : ((plS n L L.length).B.map rowB)[0 + 1 + k]? = some (rowB ((plS n L L.length).B.getD (k + 1) Ct0)) := by rw [show 0 + 1 + k = k + 1 by omega]; exact I0 (by omega)
     rw [rowB_0 hz] at hrow
     (refine mem (by exact Q0) ⟨rfl, C2 ?_⟩)
     (apply D2 (vs := [.str _, _]) j2; exact Q0; exact Q8; rfl; exact kb; rfl)
     (apply est (u := .agg [.str _, _]) j3; exact Q0; exact Q8; exact j4; exact kb; rfl)
     refine A4 ?_ (by exact Q0) (by exact Q8)
     refine br ?_ (fun h => absurd (rfl) h)
     intro h24_3
     refine D3 (es := [[.str _]]) j4 kz kb rfl rfl ?_
     (apply eap (s' := 16) (es := [[.str _]]) rfl rfl; exact Q0; exact j2; exact Q29; exact j2; exact kz; exact H5; exact Q6; exact Q4; exact Q4)
     refine E1 fun G hG => ?_
     refine B7 ?_
     refine C6 (ih ⟨k + 1, .view (m + 1 + 1) 0 ((ouP (plS n L L.length) k).length + 1), m + 1 + 1, m + 1 + 1 + 1, G⟩ ⟨by dsimp only; omega, ?_, by dsimp only; omega, .inr ⟨?_, ?_, by dsimp only; omega, by dsimp only; omega⟩⟩ (by dsimp only; omega)) (by (try dsimp only); (repeat first | exact LE.nil _ | refine LE.unk _ _ ?_ | refine LE.eq _ _ _ rfl ?_)) (LessH.refl _) (Nat.le_refl _)
     ·dsimp only; rw [hG]; exact Q0
     ·show V.view _ 0 _ = V.view _ 0 (ouP (plS n L L.length) k ++ [_]).length; rw [List.length_append]; rfl
     ·dsimp only; rw [hG]; show _ = some (Blk.mk ((ouP (plS n L L.length) k ++ [if _ then _ else _]).map tV) 1 9); rw [List.map_append, if_pos hz]; exact Q0
    ·have hek : k = ((plS n L L.length).last + 1 - 1).toNat := by omega
     rw [show plC n vw L = 0 from (if_pos (by omega)).trans (if_pos hpo), show plO n vw L = ouP (plS n L L.length) k from (if_pos hpo).trans (by rw [← hek])]
     refine C7 [bb] (A0 rfl (A0 rfl A1)) (SnapL.cons _ _ _ _ (.one _ _ (.weak _ _ (A3 (b := ⟨(ouP (plS n L L.length) k).map tV, 1, 9⟩) ((ouP (plS n L L.length) k).map tT) (List.mem_singleton.2 rfl) (by exact Q0) (rowsT _).symm (List.length_map ..).symm))) (SnapL.cons _ _ _ _ (.one _ _ (.int _ _)) SnapL.nil))
   ·skip
    obtain rfl : k = 0 := by rw [e0] at hrl; exact hrl.symm
    subst e1
    refine A7 (st := [18, 27]) ?_
    refine br ?_ ?_ <;> intro h22_0
    ·have hkl : 0 < ((plS n L L.length).last + 1 - 1).toNat := by omega
     have hrow : ((plS n L L.length).B.map rowB)[0 + 1 + 0]? = some (rowB ((plS n L L.length).B.getD (0 + 1) Ct0)) := by rw [show 0 + 1 + 0 = 0 + 1 by omega]; exact I0 (by omega)
     rw [X8 (Nat.pos_of_ne_zero hz)] at hrow
     have hlo : (((plS n L L.length).B.getD (0 + 1) Ct0).ps.map Msg.T).length = ((plS n L L.length).B.getD (0 + 1) Ct0).ps.length := List.length_map ..
     (refine mem (by exact Q0) ⟨rfl, C2 ?_⟩)
     (apply D2 (vs := [.str _, _]) j2; exact Q0; exact Q8; rfl; exact kb; rfl)
     (apply est (u := .agg [.str _, _]) j3; exact Q0; exact Q8; exact j4; exact kb; rfl)
     refine A4 ?_ (by exact Q0) (by exact Q8)
     refine br (fun h => absurd h ((by omega))) ?_
     intro h24_3
     refine A4 ?_ (by exact Q0) (by exact Q8)
     refine D3 (es := [[.str _]]) j4 kz kb rfl rfl ?_
     (apply ean (s' := 16) (es := [[.str _]]) rfl j3 kz; exact H5; exact Q6; exact Q4; exact Q4; exact Q4)
     refine E1 fun G hG => ?_
     refine B7 ?_
     refine C6 (ih ⟨0 + 1, .view (m + 1 + 1) 0 1, m + 1 + 1, m + 1 + 1 + 1, G⟩ ⟨by dsimp only; omega, ?_, by dsimp only; omega, .inr ⟨?_, ?_, by dsimp only; omega, by dsimp only; omega⟩⟩ (by dsimp only; omega)) (by (try dsimp only); (repeat first | exact LE.nil _ | refine LE.unk _ _ ?_ | refine LE.eq _ _ _ rfl ?_)) (LessH.refl _) (Nat.le_refl _)
     ·dsimp only; rw [hG]; exact Q0
     ·show V.view _ 0 _ = V.view _ 0 (ouP (plS n L L.length) 0 ++ [_]).length; rw [List.length_append]; rfl
     ·dsimp only; rw [hG]; show _ = some (Blk.mk ((ouP (plS n L L.length) 0 ++ [if _ then _ else _]).map tV) 1 9); rw [List.map_append, if_neg hz]; exact Q0
    ·have hek : 0 = ((plS n L L.length).last + 1 - 1).toNat := by omega
     rw [show plC n vw L = 0 from (if_pos (by omega)).trans (if_pos hpo), show plO n vw L = ouP (plS n L L.length) 0 from (if_pos hpo).trans (by rw [← hek])]
     refine C7 [] (A0 rfl (A0 rfl A1)) (SnapL.cons _ _ _ _ (.one _ _ .nslW) (SnapL.cons _ _ _ _ (.one _ _ (.int _ _)) SnapL.nil))
   ·skip
    dsimp only at hbO2 hbO
    subst e1
    refine A7 (st := [18, 27]) ?_
    refine br ?_ ?_ <;> intro h22_0
    ·have hkl : k < ((plS n L L.length).last + 1 - 1).toNat := by omega
     have hrow : ((plS n L L.length).B.map rowB)[0 + 1 + k]? = some (rowB ((plS n L L.length).B.getD (k + 1) Ct0)) := by rw [show 0 + 1 + k = k + 1 by omega]; exact I0 (by omega)
     rw [X8 (Nat.pos_of_ne_zero hz)] at hrow
     have hlo : (((plS n L L.length).B.getD (k + 1) Ct0).ps.map Msg.T).length = ((plS n L L.length).B.getD (k + 1) Ct0).ps.length := List.length_map ..
     (refine mem (by exact Q0) ⟨rfl, C2 ?_⟩)
     (apply D2 (vs := [.str _, _]) j2; exact Q0; exact Q8; rfl; exact kb; rfl)
     (apply est (u := .agg [.str _, _]) j3; exact Q0; exact Q8; exact j4; exact kb; rfl)
     refine A4 ?_ (by exact Q0) (by exact Q8)
     refine br (fun h => absurd h ((by omega))) ?_
     intro h24_3
     refine A4 ?_ (by exact Q0) (by exact Q8)
     refine D3 (es := [[.str _]]) j4 kz kb rfl rfl ?_
     (apply eap (s' := 16) (es := [[.str _]]) rfl rfl; exact Q0; exact j2; exact Q29; exact j2; exact kz; exact H5; exact Q6; exact Q4; exact Q4)
     refine E1 fun G hG => ?_
     refine B7 ?_
     refine C6 (ih ⟨k + 1, .view (m + 1 + 1) 0 ((ouP (plS n L L.length) k).length + 1), m + 1 + 1, m + 1 + 1 + 1, G⟩ ⟨by dsimp only; omega, ?_, by dsimp only; omega, .inr ⟨?_, ?_, by dsimp only; omega, by dsimp only; omega⟩⟩ (by dsimp only; omega)) (by (try dsimp only); (repeat first | exact LE.nil _ | refine LE.unk _ _ ?_ | refine LE.eq _ _ _ rfl ?_)) (LessH.refl _) (Nat.le_refl _)
     ·dsimp only; rw [hG]; exact Q0
     ·show V.view _ 0 _ = V.view _ 0 (ouP (plS n L L.length) k ++ [_]).length; rw [List.length_append]; rfl
     ·dsimp only; rw [hG]; show _ = some (Blk.mk ((ouP (plS n L L.length) k ++ [if _ then _ else _]).map tV) 1 9); rw [List.map_append, if_neg hz]; exact Q0
    ·have hek : k = ((plS n L L.length).last + 1 - 1).toNat := by omega
     rw [show plC n vw L = 0 from (if_pos (by omega)).trans (if_pos hpo), show plO n vw L = ouP (plS n L L.length) k from (if_pos hpo).trans (by rw [← hek])]
     refine C7 [bb] (A0 rfl (A0 rfl A1)) (SnapL.cons _ _ _ _ (.one _ _ (.weak _ _ (A3 (b := ⟨(ouP (plS n L L.length) k).map tV, 1, 9⟩) ((ouP (plS n L L.length) k).map tT) (List.mem_singleton.2 rfl) (by exact Q0) (rowsT _).symm (List.length_map ..).symm))) (SnapL.cons _ _ _ _ (.one _ _ (.int _ _)) SnapL.nil))
open Go.V
set_option linter.unusedVariables false
set_option linter.unusedSimpArgs false
set_option maxRecDepth 20000
set_option maxHeartbeats 4000000
noncomputable instance dcPr (n vw : Int) : Decidable (nodes n ∧ 1 ≤ vw ∧ vw ≤ 20) := Classical.propDecidable _
noncomputable def pnC (n vw : Int) (L : List Msg) : Int := if 4096 < L.length then 2 else if nodes n ∧ 1 ≤ vw ∧ vw ≤ 20 then plC n vw L else 4
noncomputable def pnO (n vw : Int) (L : List Msg) : List ByteArray := if 4096 < L.length then [] else if nodes n ∧ 1 ≤ vw ∧ vw ≤ 20 then plO n vw L else []
theorem s62 (L : List Msg) (b : Bool) : Pure En 62 [.one (.sl b (L.map Msg.T))] [.one (.bool (decide (4096 < L.length)))] := by
 have hl : (L.map Msg.T).length = L.length := List.length_map ..
 refine Pure.of_ev (st := []) Tryz.func62 rfl kb ?_
 refine br ?_ ?_ <;> intro h1_2
 ·first | (refine B4 rfl ?_; omega) | (refine B3 rfl ?_; omega)
 ·first | (refine B4 rfl ?_; omega) | (refine B3 rfl ?_; omega)
theorem s16 (n vw : Int) (L : List Msg) (b : Bool) : Pure En 16 [.one (.int .i64 n), .one (.int .i64 vw), .one (.sl b (L.map Msg.T))] [.one (.sl false ((pnO n vw L).map tT)), .one (.int .i64 (pnC n vw L))] := by
 refine Pure.of_ev (st := []) Tryz.func16 rfl kb ?_
 refine B6 (s62 L b) rfl j2 ?_ ?_ <;> intro h1_1
 ·rw [show pnC n vw L = 2 from if_pos h1_1, show pnO n vw L = [] from if_pos h1_1]
  exact C7 [] (A0 rfl (A0 rfl A1)) (SnapL.cons _ _ _ _ (.one _ _ .nslW) (SnapL.cons _ _ _ _ (.one _ _ (.int _ _)) SnapL.nil))
 ·refine B6 (p22 n) rfl j2 ?_ ?_ <;> intro h3_1
  ·refine B6 (p12 _ _ _) rfl j2 ?_ ?_ <;> intro h3_5
   ·refine C8 (s65 n vw h3_1 L b) rfl rfl rfl ?_
    have hy : nodes n ∧ 1 ≤ vw ∧ vw ≤ 20 := ⟨h3_1, h3_5⟩
    rw [show pnC n vw L = plC n vw L from (if_neg h1_1).trans (if_pos hy), show pnO n vw L = plO n vw L from (if_neg h1_1).trans (if_pos hy)]
    exact E4 rfl rfl
   ·have hno : ¬ (nodes n ∧ 1 ≤ vw ∧ vw ≤ 20) := fun e => by
     first
     | exact h3_1 e.1
     | exact h3_5 e.2
    rw [show pnC n vw L = 4 from (if_neg h1_1).trans (if_neg hno), show pnO n vw L = [] from (if_neg h1_1).trans (if_neg hno)]
    exact C7 [] (A0 rfl (A0 rfl A1)) (SnapL.cons _ _ _ _ (.one _ _ .nslW) (SnapL.cons _ _ _ _ (.one _ _ (.int _ _)) SnapL.nil))
  ·have hno : ¬ (nodes n ∧ 1 ≤ vw ∧ vw ≤ 20) := fun e => by
    first
    | exact h3_1 e.1
    | exact h3_5 e.2
   rw [show pnC n vw L = 4 from (if_neg h1_1).trans (if_neg hno), show pnO n vw L = [] from (if_neg h1_1).trans (if_neg hno)]
   exact C7 [] (A0 rfl (A0 rfl A1)) (SnapL.cons _ _ _ _ (.one _ _ .nslW) (SnapL.cons _ _ _ _ (.one _ _ (.int _ _)) SnapL.nil))
end Go.Proofs.YteifdelnahccjaaGreatDoor
