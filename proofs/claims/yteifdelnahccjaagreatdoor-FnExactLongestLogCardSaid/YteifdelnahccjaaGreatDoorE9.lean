import Derived.Test.YteifdelnahccjaaGreatDoorE8
namespace Go.Proofs.YteifdelnahccjaaGreatDoor
open Go.V
set_option linter.unusedVariables false
set_option linter.unusedSimpArgs false
set_option maxRecDepth 20000
set_option maxHeartbeats 4000000
theorem getVs {α : Type} (f : α → List V) (d : α) {L : List α} {i a : Nat} {v : List V} (hi : 0 < i) (h : i ≤ L.length) (ha : a = i) : ((L.map f).set a v)[0 + ((i : Int) - 1).toNat]? = some (f (L.getD (i - 1) d)) := by
 rw [List.getElem?_set_ne (by omega)]; exact getVm f d hi h
structure SS where
 i : Nat
 M : List Int
 g : Heap
structure SI (L : List Int) (u : Nat) (a : SS) : Prop where
 il : a.i ≤ u
 len : a.M.length = L.length
 g1 : a.g 1 = some ⟨a.M.map iV, 1, 3⟩
theorem r225 (L : List Int) (nn : Bool) (hne : L ≠ []) (hL : L.length ≤ 1048576) : ∃ M : List Int, M.length = L.length ∧ Pure En 225 [.one (.sl nn (L.map iT))] [.one (.sl true (M.map iT))] := by
 have hl : (L.map iT).length = L.length := List.length_map ..
 have hp := List.length_pos_iff.2 hne
 refine Pure.of_evX (st := [7]) (R := fun M : List Int => [.one (.sl true (M.map iT))]) (p := fun M : List Int => M.length = L.length) Tryz.func225 rfl kb ?_
 refine F2 (es := []) j4 kz kb rfl rfl ?_
 (apply eap (s' := 8)  rfl rfl; exact Q0; exact j2; exact Q23; exact j2; exact kz; exact O8; (first | rfl | assumption | (focus (intro c hc; obtain ⟨x, hx, rfl⟩ := List.mem_map.1 hc; obtain ⟨y, hy, rfl⟩ := List.mem_map.1 hx; rfl)) | (focus (simp; done)) | (focus (intro _ hc; rw [List.mem_singleton] at hc; subst hc; rfl)) | (intro _ _; simp_all)); (first | omega | (focus (simp only [List.length_cons, List.length_nil]; omega)) | (focus (rw [List.length_map, List.length_map]; omega))); (first | omega | (focus (simp only [List.length_cons, List.length_nil]; omega)) | (focus (rw [List.length_map, List.length_map]; omega))))
 refine wlG fun g0 hg0 => ?_
 refine A9 (fun (a : SS) => [.unk, .unk, .unk, .view 1 0 L.length, .int .i64 a.i]) (fun (a : SS) => a.g) (fun (a : SS) => 2) (fun (a : SS) => 1 ≤ a.i ∧ SI L L.length a) (fun (a : SS) => L.length - a.i) ⟨1, L, g0⟩ ?_ ?_ ?_ ?_ ?_
 ·refine ⟨Nat.le_refl _, by dsimp only; omega, rfl, ?_⟩
  dsimp only; rw [hg0]; (simp (disch := omega) only [↓app0, ↓appC, ↓updS, ↓updN]); exact congrArg (fun z => some (Blk.mk z 1 3)) (by rw [List.map_map]; rfl)
 ·(repeat first | exact LE.nil _ | refine LE.unk _ _ ?_ | refine LE.eq _ _ _ rfl ?_ | refine LE.eq _ _ _ (congrArg (V.view 1 0) (by rw [List.length_map, List.length_map, Nat.zero_add])) ?_)
 ·exact LessH.refl _
 ·exact Nat.le_refl _
 intro ⟨i, M, g⟩ hI ih
 obtain ⟨h1i, hI⟩ := hI
 have q0 := hI.il
 have ql := hI.len
 have qg := hI.g1
 have ihO := ih
 dsimp only at h1i q0 ql qg ⊢
 refine A3 (st := [7]) ?_
 refine br ?_ ?_ <;> intro h3_3
 ·refine A9 (fun (a : SS) => [.unk, .unk, .unk, .view 1 0 L.length, .int .i64 i, .int .i64 a.i]) (fun (a : SS) => a.g) (fun (a : SS) => 2) (fun (a : SS) => SI L i a) (fun (a : SS) => a.i) ⟨i, M, g⟩ ?_ ?_ ?_ ?_ ?_
  ·exact ⟨Nat.le_refl _, ql, qg⟩
  ·(repeat first | exact LE.nil _ | refine LE.unk _ _ ?_ | refine LE.eq _ _ _ rfl ?_)
  ·exact LessH.refl _
  ·exact Nat.le_refl _
  intro ⟨j, M2, g2⟩ hI ih
  have r0 := hI.il
  have rl := hI.len
  have rg := hI.g1
  dsimp only at r0 rl rg ⊢
  refine A3 (st := [7]) ?_
  refine br ?_ ?_ <;> intro h6_1
  ·refine C1 ?_
   (refine D7 (by exact Q0) ⟨rfl, C0 ?_⟩)
   refine A2 ?_ (by exact Q0) (by exact Q29)
   (refine D7 (by exact Q0) ⟨rfl, C0 ?_⟩)
   refine A2 ?_ (by exact Q0) (by exact Q29)
   refine br ?_ ?_ <;> intro h6_12
   ·(refine D7 (by exact Q0) ⟨rfl, C0 ?_⟩)
    refine A2 ?_ (by exact Q0) (by exact Q29)
    refine C1 ?_
    (refine D7 (by exact Q0) ⟨rfl, C0 ?_⟩)
    refine A2 ?_ (by exact Q0) (by exact Q29)
    (refine D7 (by exact Q0) ⟨rfl, C0 ?_⟩)
    (apply est (u := .int _ _) j3; exact Q0; exact Q29; exact j2; rfl; rfl; exact kb; rfl)
    refine C1 ?_
    (refine D7 (by exact Q0) ⟨rfl, C0 ?_⟩)
    (apply est (u := .int _ _) j3; exact Q0; exact Q29; exact j2; rfl; rfl; exact kb; rfl)
    refine H2 fun G hG => ?_
    refine C1 ?_
    have hst : (j : Int) - 1 = ((j - 1 : Nat) : Int) := by omega
    have hjt : ((j : Int) - 1).toNat = j - 1 := by omega
    refine C9 (ih ⟨j - 1, (M2.set j (M2.getD (j - 1) 0)).set (j - 1) (M2.getD j 0), G⟩ ⟨by dsimp only; omega, by dsimp only; rw [List.length_set, List.length_set]; exact rl, ?_⟩ (by dsimp only; omega)) (by (repeat first | exact LE.nil _ | refine LE.unk _ _ ?_ | refine LE.eq _ _ _ rfl ?_ | refine LE.eq _ _ _ (congrArg (V.int IntKind.i64) hst) ?_)) (LessH.refl _) (Nat.le_refl _)
    dsimp only
    rw [List.map_set, List.map_set, hG]
    (simp (disch := omega) only [↓app0, ↓appC, ↓updS, ↓updN, Nat.zero_add, Int.toNat_natCast, hjt])
    rfl
   ·refine C1 ?_
    exact C9 (ihO ⟨i + 1, M2, g2⟩ ⟨by dsimp only; omega, by dsimp only; omega, hI.len, hI.g1⟩ (by dsimp only; omega)) (by (repeat first | exact LE.nil _ | refine LE.unk _ _ ?_ | refine LE.eq _ _ _ rfl ?_)) (LessH.refl _) (Nat.le_refl _)
  ·refine C1 ?_
   exact C9 (ihO ⟨i + 1, M2, g2⟩ ⟨by dsimp only; omega, by dsimp only; omega, hI.len, hI.g1⟩ (by dsimp only; omega)) (by (repeat first | exact LE.nil _ | refine LE.unk _ _ ?_ | refine LE.eq _ _ _ rfl ?_)) (LessH.refl _) (Nat.le_refl _)
 ·refine ⟨M, hI.len, D3 [1] (A0 rfl A1) (SnapL.cons _ _ _ _ (.one _ _ (B5 (b := ⟨M.map iV, 1, 3⟩) (M.map iT) (List.mem_singleton.2 rfl) (by exact Q0) (rowsI _).symm (by rw [List.length_map]; exact hI.len.symm))) SnapL.nil)⟩
open Go.V
set_option linter.unusedVariables false
set_option linter.unusedSimpArgs false
set_option maxRecDepth 20000
set_option maxHeartbeats 4000000
structure TR2 where
 i : Nat
 b : Nat
 m : Nat
 g : Heap
structure TRI (n : Int) (rs : List Rg) (a : TR2) : Prop where
 il : a.i ≤ rs.length
 out : a.g a.b = some ⟨(vlL rs a.i).map iV, 1, 3⟩
 bm : a.b < a.m
 ok : ∀ j, j < a.i → tmR n rs j
theorem r152_1 (rs : List Rg) (nn : Bool) : ∃ t : Int, True ∧ Pure En 152 [.one (.int .i64 1), .one (.sl nn (rs.map Rg.T))] [.one (.int .i64 t), .one (.bool (decide (timeOK rdM 1 rs)))] := by
 have hl : (rs.map Rg.T).length = rs.length := List.length_map ..
 have hq : quo 1 = 1 := by decide
 refine Pure.of_evX (st := [7]) (R := fun t : Int => [.one (.int .i64 t), .one (.bool (decide (timeOK rdM 1 rs)))]) (p := fun _ => True) Tryz.func152 rfl kb ?_
 refine C1 ?_
 refine C0 ?_
 rw [show IntKind.i64.wrap (((1 : Int) - 1).tdiv 3) = 0 from by decide]
 refine C1 ?_
 refine C1 ?_
 refine br ?_ ?_ <;> intro h2_5
 ·have hno : ¬ timeOK rdM 1 rs := fun e => by have := e.1; rw [hq] at this; omega
  refine ⟨0, trivial, ?_⟩
  rw [decide_eq_false hno]
  exact C2 rfl rfl
 ·refine F2 (es := []) j4 kz kb rfl rfl ?_
  refine wlG fun g0 hg0 => ?_
  refine A9 (fun (a : TR2) => [.int .i64 1, .sl false nn (rs.map Rg.T), .unk, .unk, .unk, .unk, .int .i64 0, .view a.b 0 a.i, .int .i64 a.i]) (fun (a : TR2) => a.g) (fun (a : TR2) => a.m) (fun (a : TR2) => TRI 1 rs a) (fun (a : TR2) => rs.length - a.i) ⟨0, 0, 1, g0⟩ ?_ ?_ ?_ ?_ ?_
  ·refine ⟨Nat.zero_le _, ?_, by dsimp only; omega, F6⟩
   dsimp only; rw [hg0]; exact Q0
  ·(repeat first | exact LE.nil _ | refine LE.unk _ _ ?_ | refine LE.eq _ _ _ rfl ?_)
  ·exact LessH.refl _
  ·exact Nat.le_refl _
  intro ⟨i, b, m, g⟩ hI ih
  have q0 := hI.il
  have qg := hI.out
  have qm := hI.bm
  have hok := hI.ok
  dsimp only at q0 qg qm hok ⊢
  have hrl := U1 rs i
  refine A3 (st := [7]) ?_
  refine br ?_ ?_ <;> intro h6_3
  ·(refine C0 (D1 (by first | rfl | assumption | exact Q20) rfl ?_))
   (apply est (u := .agg [.int _ _, .int _ _, .str _]) j3; exact Q0; exact Q4; exact j2; rfl; rfl; exact kb; rfl)
   (apply D2 (vs := [.int _ _, .int _ _, .str _]) j2; exact Q0; exact Q4; rfl; exact kb; rfl)
   refine B8 (r223 (rs.getD i Rg0)) rfl j2 ?_ ?_ <;> intro h9_1
   ·refine A2 ?_ (by exact Q0) (by exact Q4)
    refine br ?_ ?_ <;> intro h9_7
    ·have hno : ¬ timeOK rdM 1 rs := fun e => by
      obtain ⟨⟨e1, e2, e3⟩, e4⟩ := e.2 i (by omega)
      first
      | exact h9_1 e1
      | omega
      | (have := e4 (by omega); omega)
      | exact h9_32 e3.symm
     refine ⟨0, trivial, ?_⟩
     rw [decide_eq_false hno]
     exact C2 rfl rfl
    ·refine br (fun h => absurd h ((by omega))) ?_
     intro h9_11
     refine A2 ?_ (by exact Q0) (by exact Q4)
     refine A2 ?_ (by exact Q0) (by exact Q4)
     refine C5 (r224 _ _) rfl rfl rfl ?_
     refine A2 ?_ (by exact Q0) (by exact Q4)
     refine br ?_ ?_ <;> intro h9_32
     ·have hno : ¬ timeOK rdM 1 rs := fun e => by
       obtain ⟨⟨e1, e2, e3⟩, e4⟩ := e.2 i (by omega)
       first
       | exact h9_1 e1
       | omega
       | (have := e4 (by omega); omega)
       | exact h9_32 e3.symm
      refine ⟨0, trivial, ?_⟩
      rw [decide_eq_false hno]
      exact C2 rfl rfl
     ·refine A2 ?_ (by exact Q0) (by exact Q4)
      refine F2 (es := [[.int _ _]]) j4 kz kb rfl rfl ?_
      (apply eap (s' := 8) (es := [[.int _ _]]) rfl rfl; exact Q0; exact j2; exact Q23; exact j2; exact kz; exact O8; exact Q7; exact Q5; exact Q5)
      refine H2 fun G hG => ?_
      refine C1 ?_
      have hit : tmR 1 rs i := ⟨⟨h9_1, by omega, (Classical.not_not.1 h9_32).symm⟩, fun _ => by omega⟩
      refine C9 (ih ⟨i + 1, m + 1 + 1, m + 1 + 1 + 1, G⟩ ⟨by dsimp only; omega, ?_, by dsimp only; omega, fun j hj => ?_⟩ (by dsimp only; omega)) (by (repeat first | exact LE.nil _ | refine LE.unk _ _ ?_ | refine LE.eq _ _ _ rfl ?_)) (LessH.refl _) (Nat.le_refl _)
      ·dsimp only; rw [hG]; show _ = some (Blk.mk ((vlL rs i ++ [_]).map iV) 1 3); rw [List.map_append]; exact Q0
      ·rcases Nat.lt_succ_iff_lt_or_eq.1 hj with q | q
       ·exact hok j q
       ·rw [q]; exact hit
   ·have hno : ¬ timeOK rdM 1 rs := fun e => by
     obtain ⟨⟨e1, e2, e3⟩, e4⟩ := e.2 i (by omega)
     first
     | exact h9_1 e1
     | omega
     | (have := e4 (by omega); omega)
     | exact h9_32 e3.symm
    refine ⟨0, trivial, ?_⟩
    rw [decide_eq_false hno]
    exact C2 rfl rfl
  ·have hvn : vlL rs i ≠ [] := fun e => by rw [e] at hrl; simp at hrl; omega
   apply eclSX [b] (r225 (vlL rs i) true hvn (by omega)) rfl j2
   ·exact SnapL.cons _ _ _ _ (.one _ _ (B5 (b := ⟨(vlL rs i).map iV, 1, 3⟩) ((vlL rs i).map iT) (List.mem_singleton.2 rfl) (by exact Q0) (rowsI _).symm (by rw [List.length_map]; exact hrl.symm))) SnapL.nil
   rintro M h12_1
   try dsimp only at h12_1
   (refine C0 (D1 (by first | rfl | assumption | exact Q20) rfl ?_))
   obtain rfl : i = rs.length := by omega
   have hyes : timeOK rdM 1 rs := ⟨by rw [hq]; omega, hok⟩
   refine ⟨M.getD (0 : Int).toNat 0, trivial, ?_⟩
   rw [decide_eq_true hyes]
   exact C2 rfl rfl
theorem r152_4 (rs : List Rg) (nn : Bool) : ∃ t : Int, True ∧ Pure En 152 [.one (.int .i64 4), .one (.sl nn (rs.map Rg.T))] [.one (.int .i64 t), .one (.bool (decide (timeOK rdM 4 rs)))] := by
 have hl : (rs.map Rg.T).length = rs.length := List.length_map ..
 have hq : quo 4 = 3 := by decide
 refine Pure.of_evX (st := [7]) (R := fun t : Int => [.one (.int .i64 t), .one (.bool (decide (timeOK rdM 4 rs)))]) (p := fun _ => True) Tryz.func152 rfl kb ?_
 refine C1 ?_
 refine C0 ?_
 rw [show IntKind.i64.wrap (((4 : Int) - 1).tdiv 3) = 1 from by decide]
 refine C1 ?_
 refine C1 ?_
 refine br ?_ ?_ <;> intro h2_5
 ·have hno : ¬ timeOK rdM 4 rs := fun e => by have := e.1; rw [hq] at this; omega
  refine ⟨0, trivial, ?_⟩
  rw [decide_eq_false hno]
  exact C2 rfl rfl
 ·refine F2 (es := []) j4 kz kb rfl rfl ?_
  refine wlG fun g0 hg0 => ?_
  refine A9 (fun (a : TR2) => [.int .i64 4, .sl false nn (rs.map Rg.T), .unk, .unk, .unk, .unk, .int .i64 1, .view a.b 0 a.i, .int .i64 a.i]) (fun (a : TR2) => a.g) (fun (a : TR2) => a.m) (fun (a : TR2) => TRI 4 rs a) (fun (a : TR2) => rs.length - a.i) ⟨0, 0, 1, g0⟩ ?_ ?_ ?_ ?_ ?_
  ·refine ⟨Nat.zero_le _, ?_, by dsimp only; omega, F6⟩
   dsimp only; rw [hg0]; exact Q0
  ·(repeat first | exact LE.nil _ | refine LE.unk _ _ ?_ | refine LE.eq _ _ _ rfl ?_)
  ·exact LessH.refl _
  ·exact Nat.le_refl _
  intro ⟨i, b, m, g⟩ hI ih
  have q0 := hI.il
  have qg := hI.out
  have qm := hI.bm
  have hok := hI.ok
  dsimp only at q0 qg qm hok ⊢
  have hrl := U1 rs i
  refine A3 (st := [7]) ?_
  refine br ?_ ?_ <;> intro h6_3
  ·(refine C0 (D1 (by first | rfl | assumption | exact Q20) rfl ?_))
   (apply est (u := .agg [.int _ _, .int _ _, .str _]) j3; exact Q0; exact Q4; exact j2; rfl; rfl; exact kb; rfl)
   (apply D2 (vs := [.int _ _, .int _ _, .str _]) j2; exact Q0; exact Q4; rfl; exact kb; rfl)
   refine B8 (r223 (rs.getD i Rg0)) rfl j2 ?_ ?_ <;> intro h9_1
   ·refine A2 ?_ (by exact Q0) (by exact Q4)
    refine br ?_ ?_ <;> intro h9_7
    ·have hno : ¬ timeOK rdM 4 rs := fun e => by
      obtain ⟨⟨e1, e2, e3⟩, e4⟩ := e.2 i (by omega)
      first
      | exact h9_1 e1
      | omega
      | (have := e4 (by omega); omega)
      | exact h9_32 e3.symm
     refine ⟨0, trivial, ?_⟩
     rw [decide_eq_false hno]
     exact C2 rfl rfl
    ·refine br ?_ ?_ <;> intro h9_11
     ·refine C1 ?_
      (refine C0 (D1 (by first | rfl | assumption | exact Q20) rfl ?_))
      refine A2 ?_ (by exact Q0) (by exact Q4)
      refine br ?_ ?_ <;> intro h9_21
      ·have hno : ¬ timeOK rdM 4 rs := fun e => by
        obtain ⟨⟨e1, e2, e3⟩, e4⟩ := e.2 i (by omega)
        first
        | exact h9_1 e1
        | omega
        | (have := e4 (by omega); omega)
        | exact h9_32 e3.symm
       refine ⟨0, trivial, ?_⟩
       rw [decide_eq_false hno]
       exact C2 rfl rfl
      ·refine A2 ?_ (by exact Q0) (by exact Q4)
       refine A2 ?_ (by exact Q0) (by exact Q4)
       refine C5 (r224 _ _) rfl rfl rfl ?_
       refine A2 ?_ (by exact Q0) (by exact Q4)
       refine br ?_ ?_ <;> intro h9_32
       ·have hno : ¬ timeOK rdM 4 rs := fun e => by
         obtain ⟨⟨e1, e2, e3⟩, e4⟩ := e.2 i (by omega)
         first
         | exact h9_1 e1
         | omega
         | (have := e4 (by omega); omega)
         | exact h9_32 e3.symm
        refine ⟨0, trivial, ?_⟩
        rw [decide_eq_false hno]
        exact C2 rfl rfl
       ·refine A2 ?_ (by exact Q0) (by exact Q4)
        refine F2 (es := [[.int _ _]]) j4 kz kb rfl rfl ?_
        (apply eap (s' := 8) (es := [[.int _ _]]) rfl rfl; exact Q0; exact j2; exact Q23; exact j2; exact kz; exact O8; exact Q7; exact Q5; exact Q5)
        refine H2 fun G hG => ?_
        refine C1 ?_
        have hit : tmR 4 rs i := ⟨⟨h9_1, by omega, (Classical.not_not.1 h9_32).symm⟩, fun _ => by omega⟩
        refine C9 (ih ⟨i + 1, m + 1 + 1, m + 1 + 1 + 1, G⟩ ⟨by dsimp only; omega, ?_, by dsimp only; omega, fun j hj => ?_⟩ (by dsimp only; omega)) (by (repeat first | exact LE.nil _ | refine LE.unk _ _ ?_ | refine LE.eq _ _ _ rfl ?_)) (LessH.refl _) (Nat.le_refl _)
        ·dsimp only; rw [hG]; show _ = some (Blk.mk ((vlL rs i ++ [_]).map iV) 1 3); rw [List.map_append]; exact Q0
        ·rcases Nat.lt_succ_iff_lt_or_eq.1 hj with q | q
         ·exact hok j q
         ·rw [q]; exact hit
     ·refine A2 ?_ (by exact Q0) (by exact Q4)
      refine A2 ?_ (by exact Q0) (by exact Q4)
      refine C5 (r224 _ _) rfl rfl rfl ?_
      refine A2 ?_ (by exact Q0) (by exact Q4)
      refine br ?_ ?_ <;> intro h9_32
      ·have hno : ¬ timeOK rdM 4 rs := fun e => by
        obtain ⟨⟨e1, e2, e3⟩, e4⟩ := e.2 i (by omega)
        first
        | exact h9_1 e1
        | omega
        | (have := e4 (by omega); omega)
        | exact h9_32 e3.symm
       refine ⟨0, trivial, ?_⟩
       rw [decide_eq_false hno]
       exact C2 rfl rfl
      ·refine A2 ?_ (by exact Q0) (by exact Q4)
       refine F2 (es := [[.int _ _]]) j4 kz kb rfl rfl ?_
       (apply eap (s' := 8) (es := [[.int _ _]]) rfl rfl; exact Q0; exact j2; exact Q23; exact j2; exact kz; exact O8; exact Q7; exact Q5; exact Q5)
       refine H2 fun G hG => ?_
       refine C1 ?_
       have hit : tmR 4 rs i := ⟨⟨h9_1, by omega, (Classical.not_not.1 h9_32).symm⟩, fun _ => by omega⟩
       refine C9 (ih ⟨i + 1, m + 1 + 1, m + 1 + 1 + 1, G⟩ ⟨by dsimp only; omega, ?_, by dsimp only; omega, fun j hj => ?_⟩ (by dsimp only; omega)) (by (repeat first | exact LE.nil _ | refine LE.unk _ _ ?_ | refine LE.eq _ _ _ rfl ?_)) (LessH.refl _) (Nat.le_refl _)
       ·dsimp only; rw [hG]; show _ = some (Blk.mk ((vlL rs i ++ [_]).map iV) 1 3); rw [List.map_append]; exact Q0
       ·rcases Nat.lt_succ_iff_lt_or_eq.1 hj with q | q
        ·exact hok j q
        ·rw [q]; exact hit
   ·have hno : ¬ timeOK rdM 4 rs := fun e => by
     obtain ⟨⟨e1, e2, e3⟩, e4⟩ := e.2 i (by omega)
     first
     | exact h9_1 e1
     | omega
     | (have := e4 (by omega); omega)
     | exact h9_32 e3.symm
    refine ⟨0, trivial, ?_⟩
    rw [decide_eq_false hno]
    exact C2 rfl rfl
  ·have hvn : vlL rs i ≠ [] := fun e => by rw [e] at hrl; simp at hrl; omega
   apply eclSX [b] (r225 (vlL rs i) true hvn (by omega)) rfl j2
   ·exact SnapL.cons _ _ _ _ (.one _ _ (B5 (b := ⟨(vlL rs i).map iV, 1, 3⟩) ((vlL rs i).map iT) (List.mem_singleton.2 rfl) (by exact Q0) (rowsI _).symm (by rw [List.length_map]; exact hrl.symm))) SnapL.nil
   rintro M h12_1
   try dsimp only at h12_1
   (refine C0 (D1 (by first | rfl | assumption | exact Q20) rfl ?_))
   obtain rfl : i = rs.length := by omega
   have hyes : timeOK rdM 4 rs := ⟨by rw [hq]; omega, hok⟩
   refine ⟨M.getD (1 : Int).toNat 0, trivial, ?_⟩
   rw [decide_eq_true hyes]
   exact C2 rfl rfl
theorem r152_7 (rs : List Rg) (nn : Bool) : ∃ t : Int, True ∧ Pure En 152 [.one (.int .i64 7), .one (.sl nn (rs.map Rg.T))] [.one (.int .i64 t), .one (.bool (decide (timeOK rdM 7 rs)))] := by
 have hl : (rs.map Rg.T).length = rs.length := List.length_map ..
 have hq : quo 7 = 5 := by decide
 refine Pure.of_evX (st := [7]) (R := fun t : Int => [.one (.int .i64 t), .one (.bool (decide (timeOK rdM 7 rs)))]) (p := fun _ => True) Tryz.func152 rfl kb ?_
 refine C1 ?_
 refine C0 ?_
 rw [show IntKind.i64.wrap (((7 : Int) - 1).tdiv 3) = 2 from by decide]
 refine C1 ?_
 refine C1 ?_
 refine br ?_ ?_ <;> intro h2_5
 ·have hno : ¬ timeOK rdM 7 rs := fun e => by have := e.1; rw [hq] at this; omega
  refine ⟨0, trivial, ?_⟩
  rw [decide_eq_false hno]
  exact C2 rfl rfl
 ·refine F2 (es := []) j4 kz kb rfl rfl ?_
  refine wlG fun g0 hg0 => ?_
  refine A9 (fun (a : TR2) => [.int .i64 7, .sl false nn (rs.map Rg.T), .unk, .unk, .unk, .unk, .int .i64 2, .view a.b 0 a.i, .int .i64 a.i]) (fun (a : TR2) => a.g) (fun (a : TR2) => a.m) (fun (a : TR2) => TRI 7 rs a) (fun (a : TR2) => rs.length - a.i) ⟨0, 0, 1, g0⟩ ?_ ?_ ?_ ?_ ?_
  ·refine ⟨Nat.zero_le _, ?_, by dsimp only; omega, F6⟩
   dsimp only; rw [hg0]; exact Q0
  ·(repeat first | exact LE.nil _ | refine LE.unk _ _ ?_ | refine LE.eq _ _ _ rfl ?_)
  ·exact LessH.refl _
  ·exact Nat.le_refl _
  intro ⟨i, b, m, g⟩ hI ih
  have q0 := hI.il
  have qg := hI.out
  have qm := hI.bm
  have hok := hI.ok
  dsimp only at q0 qg qm hok ⊢
  have hrl := U1 rs i
  refine A3 (st := [7]) ?_
  refine br ?_ ?_ <;> intro h6_3
  ·(refine C0 (D1 (by first | rfl | assumption | exact Q20) rfl ?_))
   (apply est (u := .agg [.int _ _, .int _ _, .str _]) j3; exact Q0; exact Q4; exact j2; rfl; rfl; exact kb; rfl)
   (apply D2 (vs := [.int _ _, .int _ _, .str _]) j2; exact Q0; exact Q4; rfl; exact kb; rfl)
   refine B8 (r223 (rs.getD i Rg0)) rfl j2 ?_ ?_ <;> intro h9_1
   ·refine A2 ?_ (by exact Q0) (by exact Q4)
    refine br ?_ ?_ <;> intro h9_7
    ·have hno : ¬ timeOK rdM 7 rs := fun e => by
      obtain ⟨⟨e1, e2, e3⟩, e4⟩ := e.2 i (by omega)
      first
      | exact h9_1 e1
      | omega
      | (have := e4 (by omega); omega)
      | exact h9_32 e3.symm
     refine ⟨0, trivial, ?_⟩
     rw [decide_eq_false hno]
     exact C2 rfl rfl
    ·refine br ?_ ?_ <;> intro h9_11
     ·refine C1 ?_
      (refine C0 (D1 (by first | rfl | assumption | exact Q20) rfl ?_))
      refine A2 ?_ (by exact Q0) (by exact Q4)
      refine br ?_ ?_ <;> intro h9_21
      ·have hno : ¬ timeOK rdM 7 rs := fun e => by
        obtain ⟨⟨e1, e2, e3⟩, e4⟩ := e.2 i (by omega)
        first
        | exact h9_1 e1
        | omega
        | (have := e4 (by omega); omega)
        | exact h9_32 e3.symm
       refine ⟨0, trivial, ?_⟩
       rw [decide_eq_false hno]
       exact C2 rfl rfl
      ·refine A2 ?_ (by exact Q0) (by exact Q4)
       refine A2 ?_ (by exact Q0) (by exact Q4)
       refine C5 (r224 _ _) rfl rfl rfl ?_
       refine A2 ?_ (by exact Q0) (by exact Q4)
       refine br ?_ ?_ <;> intro h9_32
       ·have hno : ¬ timeOK rdM 7 rs := fun e => by
         obtain ⟨⟨e1, e2, e3⟩, e4⟩ := e.2 i (by omega)
         first
         | exact h9_1 e1
         | omega
         | (have := e4 (by omega); omega)
         | exact h9_32 e3.symm
        refine ⟨0, trivial, ?_⟩
        rw [decide_eq_false hno]
        exact C2 rfl rfl
       ·refine A2 ?_ (by exact Q0) (by exact Q4)
        refine F2 (es := [[.int _ _]]) j4 kz kb rfl rfl ?_
        (apply eap (s' := 8) (es := [[.int _ _]]) rfl rfl; exact Q0; exact j2; exact Q23; exact j2; exact kz; exact O8; exact Q7; exact Q5; exact Q5)
        refine H2 fun G hG => ?_
        refine C1 ?_
        have hit : tmR 7 rs i := ⟨⟨h9_1, by omega, (Classical.not_not.1 h9_32).symm⟩, fun _ => by omega⟩
        refine C9 (ih ⟨i + 1, m + 1 + 1, m + 1 + 1 + 1, G⟩ ⟨by dsimp only; omega, ?_, by dsimp only; omega, fun j hj => ?_⟩ (by dsimp only; omega)) (by (repeat first | exact LE.nil _ | refine LE.unk _ _ ?_ | refine LE.eq _ _ _ rfl ?_)) (LessH.refl _) (Nat.le_refl _)
        ·dsimp only; rw [hG]; show _ = some (Blk.mk ((vlL rs i ++ [_]).map iV) 1 3); rw [List.map_append]; exact Q0
        ·rcases Nat.lt_succ_iff_lt_or_eq.1 hj with q | q
         ·exact hok j q
         ·rw [q]; exact hit
     ·refine A2 ?_ (by exact Q0) (by exact Q4)
      refine A2 ?_ (by exact Q0) (by exact Q4)
      refine C5 (r224 _ _) rfl rfl rfl ?_
      refine A2 ?_ (by exact Q0) (by exact Q4)
      refine br ?_ ?_ <;> intro h9_32
      ·have hno : ¬ timeOK rdM 7 rs := fun e => by
        obtain ⟨⟨e1, e2, e3⟩, e4⟩ := e.2 i (by omega)
        first
        | exact h9_1 e1
        | omega
        | (have := e4 (by omega); omega)
        | exact h9_32 e3.symm
       refine ⟨0, trivial, ?_⟩
       rw [decide_eq_false hno]
       exact C2 rfl rfl
      ·refine A2 ?_ (by exact Q0) (by exact Q4)
       refine F2 (es := [[.int _ _]]) j4 kz kb rfl rfl ?_
       (apply eap (s' := 8) (es := [[.int _ _]]) rfl rfl; exact Q0; exact j2; exact Q23; exact j2; exact kz; exact O8; exact Q7; exact Q5; exact Q5)
       refine H2 fun G hG => ?_
       refine C1 ?_
       have hit : tmR 7 rs i := ⟨⟨h9_1, by omega, (Classical.not_not.1 h9_32).symm⟩, fun _ => by omega⟩
       refine C9 (ih ⟨i + 1, m + 1 + 1, m + 1 + 1 + 1, G⟩ ⟨by dsimp only; omega, ?_, by dsimp only; omega, fun j hj => ?_⟩ (by dsimp only; omega)) (by (repeat first | exact LE.nil _ | refine LE.unk _ _ ?_ | refine LE.eq _ _ _ rfl ?_)) (LessH.refl _) (Nat.le_refl _)
       ·dsimp only; rw [hG]; show _ = some (Blk.mk ((vlL rs i ++ [_]).map iV) 1 3); rw [List.map_append]; exact Q0
       ·rcases Nat.lt_succ_iff_lt_or_eq.1 hj with q | q
        ·exact hok j q
        ·rw [q]; exact hit
   ·have hno : ¬ timeOK rdM 7 rs := fun e => by
     obtain ⟨⟨e1, e2, e3⟩, e4⟩ := e.2 i (by omega)
     first
     | exact h9_1 e1
     | omega
     | (have := e4 (by omega); omega)
     | exact h9_32 e3.symm
    refine ⟨0, trivial, ?_⟩
    rw [decide_eq_false hno]
    exact C2 rfl rfl
  ·have hvn : vlL rs i ≠ [] := fun e => by rw [e] at hrl; simp at hrl; omega
   apply eclSX [b] (r225 (vlL rs i) true hvn (by omega)) rfl j2
   ·exact SnapL.cons _ _ _ _ (.one _ _ (B5 (b := ⟨(vlL rs i).map iV, 1, 3⟩) ((vlL rs i).map iT) (List.mem_singleton.2 rfl) (by exact Q0) (rowsI _).symm (by rw [List.length_map]; exact hrl.symm))) SnapL.nil
   rintro M h12_1
   try dsimp only at h12_1
   (refine C0 (D1 (by first | rfl | assumption | exact Q20) rfl ?_))
   obtain rfl : i = rs.length := by omega
   have hyes : timeOK rdM 7 rs := ⟨by rw [hq]; omega, hok⟩
   refine ⟨M.getD (2 : Int).toNat 0, trivial, ?_⟩
   rw [decide_eq_true hyes]
   exact C2 rfl rfl
theorem r152 (n : Int) (hn : nodes n) (rs : List Rg) (nn : Bool) : ∃ t : Int, True ∧ Pure En 152 [.one (.int .i64 n), .one (.sl nn (rs.map Rg.T))] [.one (.int .i64 t), .one (.bool (decide (timeOK rdM n rs)))] := by
 rcases hn with rfl | rfl | rfl
 ·exact r152_1 rs nn
 ·exact r152_4 rs nn
 ·exact r152_7 rs nn
open Go.V
set_option linter.unusedVariables false
set_option linter.unusedSimpArgs false
set_option maxRecDepth 20000
set_option maxHeartbeats 4000000
def qD (p : ByteArray) (i : Nat) : ByteArray := p.extract (1 + 13 * (i : Int)).toNat (14 + 13 * (i : Int)).toNat
def rgD (p : ByteArray) (i : Nat) : Rg := ⟨bt (qD p i) 0, num ((qD p i).extract 1 5) 0 ((qD p i).extract 1 5).size, (qD p i).extract (5 : Int).toNat ((qD p i).size : Int).toNat⟩
theorem rgD_V (p : ByteArray) (i : Nat) : Rg.V (rgD p i) = [.int .i64 (bt (qD p i) 0), .int .i64 (num ((qD p i).extract 1 5) 0 ((qD p i).extract 1 5).size), .str ((qD p i).extract (5 : Int).toNat ((qD p i).size : Int).toNat)] := by
 dsimp only [Rg.V, rgD]
def rgs (p : ByteArray) (i : Nat) : List Rg := (List.range i).map (rgD p)
theorem rgs_len (p : ByteArray) (i : Nat) : (rgs p i).length = i := by unfold rgs; rw [List.length_map, List.length_range]
theorem rgs_succ (p : ByteArray) (i : Nat) : rgs p (i + 1) = rgs p i ++ [rgD p i] := by unfold rgs; rw [List.range_succ, List.map_append]; rfl
theorem rgD_eq {p : ByteArray} {i : Nat} (h : 14 + 13 * i ≤ p.size) : rgD p i = rgC p i := by
 have e1 : (1 + 13 * (i : Int)).toNat = 1 + 13 * i := by omega
 have e2 : (14 + 13 * (i : Int)).toNat = 14 + 13 * i := by omega
 have hs : (p.extract (1 + 13 * i) (14 + 13 * i)).size = 13 := by rw [C8 h]; omega
 unfold rgD rgC qD
 rw [e1, e2, bt_ext (by omega) h, Int.toNat_natCast, show (5 : Int).toNat = 5 from rfl, hs, U7 (by omega), U7 (by omega), C8 (by omega), num_1, show 1 + 13 * i + 5 - (1 + 13 * i + 1) = 4 by omega, G3 (by omega) (by omega), Nat.add_zero, Nat.add_zero,
  show 1 + 13 * i + 1 = 2 + 13 * i by omega, show 1 + 13 * i + 5 = 6 + 13 * i by omega, show 1 + 13 * i + 13 = 14 + 13 * i by omega]
theorem rgs_eq {p : ByteArray} : ∀ {k : Nat}, 1 + 13 * k ≤ p.size → rgs p k = (List.range k).map (rgC p)
 | 0, _ => rfl
 | k + 1, h => by rw [rgs_succ, rgs_eq (by omega), rgD_eq (by omega), List.range_succ, List.map_append]; rfl
def rbQ (p : ByteArray) : ByteArray := p.extract (1 + 13 * (bt p 0 - 1)).toNat p.size
noncomputable def rbL (p : ByteArray) : Bt := ⟨false, rqR (rbQ p), rgs p (bt p 0 - 1).toNat⟩
noncomputable def rbX (p : ByteArray) : Bt := if p = ⟨#[]⟩ then BtZ else if bt p 0 = 0 then BtN else if (p.size : Int) < 1 + 13 * (bt p 0 - 1) then BtZ else rbL p
theorem rb_ne {p : ByteArray} (h : p ≠ ⟨#[]⟩) : 1 ≤ p.size := by
 rcases Nat.eq_zero_or_pos p.size with q | q
 ·exact absurd (size0 q) h
 ·exact q
theorem rb_e {p : ByteArray} (h : p = ⟨#[]⟩) : ¬ bOK p := by
 subst h
 rintro (e | ⟨e, _⟩)
 ·cases e
 ·have := e.1; have : (⟨#[]⟩ : ByteArray).size = 0 := rfl; omega
theorem rb_0 {p : ByteArray} (h : p ≠ ⟨#[]⟩) (h0 : bt p 0 = 0) : bOK p ↔ p.size = 1 := by
 have h1 := rb_ne h
 constructor
 ·rintro (e | ⟨e, _⟩)
  ·exact ((I7 p).1 e).1
  ·have := e.2.1; rw [num_1] at this; omega
 ·intro e; exact .inl ((I7 p).2 ⟨e, by rw [num_1]; exact h0⟩)
theorem rb_n (p : ByteArray) : btN p = (bt p 0 - 1).toNat := by unfold btN; rw [num_1]
theorem rb_s {p : ByteArray} (h0 : bt p 0 ≠ 0) (h : (p.size : Int) < 1 + 13 * (bt p 0 - 1)) : ¬ bOK p := by
 have := U9 p 0
 rintro (e | ⟨e, _⟩)
 ·have := ((I7 p).1 e).2; rw [num_1] at this; omega
 ·have := e.2.2.1; rw [rb_n] at this; omega
theorem rb_q {p : ByteArray} (h0 : bt p 0 ≠ 0) (h : ¬ (p.size : Int) < 1 + 13 * (bt p 0 - 1)) : rbQ p = p.extract (1 + 13 * btN p) p.size := by
 have := U9 p 0
 unfold rbQ
 rw [rb_n, show (1 + 13 * (bt p 0 - 1)).toNat = 1 + 13 * (bt p 0 - 1).toNat by omega]
theorem rb_c {p : ByteArray} (h0 : bt p 0 ≠ 0) (h : ¬ (p.size : Int) < 1 + 13 * (bt p 0 - 1)) (hl : rqL (rbQ p) 0) : rbL p = btC p := by
 have h1 := U9 p 0
 have hn := rb_n p
 have hle : 1 + 13 * btN p ≤ p.size := by rw [hn]; omega
 unfold rbL btC
 rw [← hn, rgs_eq hle, show rqR (rbQ p) = rqC (rbQ p) 0 from if_pos hl]
 rw [rb_q h0 h] at hl ⊢
 rw [rqL_ext hle] at hl
 rw [rqC_ext hl.1]
theorem rb_ok {p : ByteArray} (h : p ≠ ⟨#[]⟩) (h0 : bt p 0 ≠ 0) (hs : ¬ (p.size : Int) < 1 + 13 * (bt p 0 - 1)) : bOK p ↔ (rqL (rbQ p) 0 ∧ (rqC (rbQ p) 0).OK) ∧ (rbL p).OK := by
 have h1 := rb_ne h
 have h2 := U9 p 0
 have hn := rb_n p
 have hle : 1 + 13 * btN p ≤ p.size := by rw [hn]; omega
 have hx : rqL (rbQ p) 0 ↔ rqL p (1 + 13 * btN p) := by rw [rb_q h0 hs]; exact rqL_ext hle
 constructor
 ·rintro (e | ⟨⟨_, _, _, e1⟩, e2⟩)
  ·have := ((I7 p).1 e).2; rw [num_1] at this; omega
  ·have hl := hx.2 e1
   have hc := rb_c h0 hs hl
   rw [← hc] at e2
   refine ⟨⟨hl, ?_⟩, e2⟩
   have e3 := e2
   unfold Bt.OK at e3
   rw [if_neg (by show ¬ false = true; exact Bool.noConfusion)] at e3
   have e4 := e3.1
   rwa [show (rbL p).rq = rqC (rbQ p) 0 from if_pos hl] at e4
 ·rintro ⟨⟨hl, _⟩, e⟩
  rw [rb_c h0 hs hl] at e
  exact .inr ⟨⟨h1, by rw [num_1]; omega, hle, hx.1 hl⟩, e⟩
theorem Z8 {p : ByteArray} (hb : bOK p) : rbX p = bX p := by
 have he : p ≠ ⟨#[]⟩ := fun e => rb_e e hb
 unfold rbX bX
 rw [if_neg he]
 by_cases h0 : bt p 0 = 0
 ·rw [if_pos h0, if_pos ((I7 p).2 ⟨(rb_0 he h0).1 hb, by rw [num_1]; exact h0⟩)]
 ·have hs : ¬ (p.size : Int) < 1 + 13 * (bt p 0 - 1) := fun q => rb_s h0 q hb
  have hk := (rb_ok he h0 hs).1 hb
  rw [if_neg h0, if_neg hs, if_neg (fun e => h0 (by rw [← num_1]; exact ((I7 p).1 e).2)), rb_c h0 hs hk.1.1]
structure RB where
 i : Nat
 b : Nat
 m : Nat
 g : Heap
structure RBI (p : ByteArray) (a : RB) : Prop where
 il : a.i ≤ (bt p 0 - 1).toNat
 g0 : a.g 0 = ZB RqZ .nsl
 g2 : a.g 2 = ZB RqZ (.view a.b 0 a.i)
 out : a.g a.b = some ⟨(rgs p a.i).map Rg.V, 3, 273⟩
 bm : a.b < a.m ∧ a.b ≠ 0 ∧ a.b ≠ 2
 mm : 3 ≤ a.m
theorem r151 (p : ByteArray) (hp : p.size ≤ 1000000) : Pure En 151 [.one (.str p)] [.agg ((rbX p).T false), .one (.bool (decide (bOK p)))] := by
 refine Pure.of_ev (st := [11]) Tryz.func151 rfl kb ?_
 refine br ?_ ?_ <;> intro h1_1
 ·(apply est (u := .agg [.bool _, .int _ _, .int _ _, .int _ _, .int _ _, .str _, _]) j3; exact Q0; exact Q4; exact j2; rfl; rfl; exact kb; rfl)
  rw [show rbX p = BtZ from if_pos h1_1, decide_eq_false (rb_e h1_1)]
  refine D3 [] (A0 (A4 rfl (by exact Q0) j2 kb rfl) (A0 rfl A1)) ?_
  exact (SnapL.cons _ _ _ _ (SnapC.agg (.cons _ _ _ _ (.bool _) (.cons _ _ _ _ (.int _ _) (.cons _ _ _ _ (.int _ _) (.cons _ _ _ _ (.int _ _) (.cons _ _ _ _ (.int _ _) (.cons _ _ _ _ (.str _) (.cons _ _ _ _ .nslW .nil)))))))) (SnapL.cons _ _ _ _ (.one _ _ (.bool _)) SnapL.nil))
 ·have hne := rb_ne h1_1
  have hb0 := U9 p 0
  have hb1 := F5 p 0
  refine lit 0 rfl (C0 ?_)
  refine cvA ?_
  refine br ?_ ?_ <;> intro h4_1
  ·refine F2 (es := []) j4 kz kb rfl rfl ?_
   refine br ?_ ?_ <;> intro h5_4
   ·(apply est (u := .agg [.bool _, .int _ _, .int _ _, .int _ _, .int _ _, .str _, _]) j3; exact Q0; exact Q4; exact j2; rfl; rfl; exact kb; rfl)
    rw [show rbX p = BtN from (if_neg h1_1).trans (if_pos h4_1)]
    first
    | (rw [decide_eq_true ((rb_0 h1_1 h4_1).2 (by omega))]; refine D3 [1] (A0 (A4 rfl (by exact Q0) j2 kb rfl) (A0 rfl A1)) ?_; exact (SnapL.cons _ _ _ _ (SnapC.agg (.cons _ _ _ _ (.bool _) (.cons _ _ _ _ (.int _ _) (.cons _ _ _ _ (.int _ _) (.cons _ _ _ _ (.int _ _) (.cons _ _ _ _ (.int _ _) (.cons _ _ _ _ (.str _) (.cons _ _ _ _ (.weak _ _ (B5 (b := ⟨[], 3, 273⟩) [] (List.mem_singleton.2 rfl) (by exact Q0) rfl rfl)) .nil)))))))) (SnapL.cons _ _ _ _ (.one _ _ (.bool _)) SnapL.nil)))
    | (rw [decide_eq_false (fun e => absurd ((rb_0 h1_1 h4_1).1 e) (by omega))]; refine D3 [1] (A0 (A4 rfl (by exact Q0) j2 kb rfl) (A0 rfl A1)) ?_; exact (SnapL.cons _ _ _ _ (SnapC.agg (.cons _ _ _ _ (.bool _) (.cons _ _ _ _ (.int _ _) (.cons _ _ _ _ (.int _ _) (.cons _ _ _ _ (.int _ _) (.cons _ _ _ _ (.int _ _) (.cons _ _ _ _ (.str _) (.cons _ _ _ _ (.weak _ _ (B5 (b := ⟨[], 3, 273⟩) [] (List.mem_singleton.2 rfl) (by exact Q0) rfl rfl)) .nil)))))))) (SnapL.cons _ _ _ _ (.one _ _ (.bool _)) SnapL.nil)))
   ·(apply est (u := .agg [.bool _, .int _ _, .int _ _, .int _ _, .int _ _, .str _, _]) j3; exact Q0; exact Q4; exact j2; rfl; rfl; exact kb; rfl)
    rw [show rbX p = BtN from (if_neg h1_1).trans (if_pos h4_1)]
    first
    | (rw [decide_eq_true ((rb_0 h1_1 h4_1).2 (by omega))]; refine D3 [1] (A0 (A4 rfl (by exact Q0) j2 kb rfl) (A0 rfl A1)) ?_; exact (SnapL.cons _ _ _ _ (SnapC.agg (.cons _ _ _ _ (.bool _) (.cons _ _ _ _ (.int _ _) (.cons _ _ _ _ (.int _ _) (.cons _ _ _ _ (.int _ _) (.cons _ _ _ _ (.int _ _) (.cons _ _ _ _ (.str _) (.cons _ _ _ _ (.weak _ _ (B5 (b := ⟨[], 3, 273⟩) [] (List.mem_singleton.2 rfl) (by exact Q0) rfl rfl)) .nil)))))))) (SnapL.cons _ _ _ _ (.one _ _ (.bool _)) SnapL.nil)))
    | (rw [decide_eq_false (fun e => absurd ((rb_0 h1_1 h4_1).1 e) (by omega))]; refine D3 [1] (A0 (A4 rfl (by exact Q0) j2 kb rfl) (A0 rfl A1)) ?_; exact (SnapL.cons _ _ _ _ (SnapC.agg (.cons _ _ _ _ (.bool _) (.cons _ _ _ _ (.int _ _) (.cons _ _ _ _ (.int _ _) (.cons _ _ _ _ (.int _ _) (.cons _ _ _ _ (.int _ _) (.cons _ _ _ _ (.str _) (.cons _ _ _ _ (.weak _ _ (B5 (b := ⟨[], 3, 273⟩) [] (List.mem_singleton.2 rfl) (by exact Q0) rfl rfl)) .nil)))))))) (SnapL.cons _ _ _ _ (.one _ _ (.bool _)) SnapL.nil)))
  ·refine C1 ?_
   refine C1 ?_
   refine C1 ?_
   refine br ?_ ?_ <;> intro h6_6
   ·(apply est (u := .agg [.bool _, .int _ _, .int _ _, .int _ _, .int _ _, .str _, _]) j3; exact Q0; exact Q4; exact j2; rfl; rfl; exact kb; rfl)
    rw [show rbX p = BtZ from (if_neg h1_1).trans ((if_neg h4_1).trans (if_pos h6_6)), decide_eq_false (rb_s h4_1 h6_6)]
    refine D3 [] (A0 (A4 rfl (by exact Q0) j2 kb rfl) (A0 rfl A1)) ?_
    exact (SnapL.cons _ _ _ _ (SnapC.agg (.cons _ _ _ _ (.bool _) (.cons _ _ _ _ (.int _ _) (.cons _ _ _ _ (.int _ _) (.cons _ _ _ _ (.int _ _) (.cons _ _ _ _ (.int _ _) (.cons _ _ _ _ (.str _) (.cons _ _ _ _ .nslW .nil)))))))) (SnapL.cons _ _ _ _ (.one _ _ (.bool _)) SnapL.nil))
   ·refine F2 (es := []) j4 kz kb rfl rfl ?_
    (apply est (u := .agg [.bool _, .int _ _, .int _ _, .int _ _, .int _ _, .str _, _]) j3; exact Q0; exact Q4; exact j2; rfl; rfl; exact kb; rfl)
    refine wlG fun g0 hg0 => ?_
    refine A9 (fun (a : RB) => [.str p, .unk, .ptr 0 0 0, .unk, .int .i64 (bt p 0), .ptr 2 0 0, .int .i64 a.i]) (fun (a : RB) => a.g) (fun (a : RB) => a.m) (fun (a : RB) => RBI p a) (fun (a : RB) => (bt p 0 - 1).toNat - a.i) ⟨0, 1, 3, g0⟩ ?_ ?_ ?_ ?_ ?_
    ·refine ⟨Nat.zero_le _, ?_, ?_, ?_, ⟨by dsimp only; omega, by dsimp only; omega, by dsimp only; omega⟩, by dsimp only; omega⟩
     ·dsimp only; rw [hg0]; exact Q0
     ·dsimp only; rw [hg0]; exact Q0
     ·dsimp only; rw [hg0]; exact Q0
    ·(repeat first | exact LE.nil _ | refine LE.unk _ _ ?_ | refine LE.eq _ _ _ rfl ?_)
    ·exact LessH.refl _
    ·exact Nat.le_refl _
    intro ⟨i, b, m, g⟩ hI ih
    have q0 := hI.il
    have hg0 := hI.g0
    have hg2 := hI.g2
    have hgb := hI.out
    have hbm := hI.bm
    have q4 := hI.mm
    unfold ZB RqZ at hg0 hg2
    dsimp only at q0 hg0 hg2 hgb hbm q4 ⊢
    have hrl := rgs_len p i
    refine A3 (st := [11]) ?_
    refine C1 ?_
    refine br ?_ ?_ <;> intro h10_3
    ·have hqs : (p.extract (1 + 13 * (i : Int)).toNat (14 + 13 * (i : Int)).toNat).size = 13 := by rw [C8 (by omega)]; omega
     refine C1 ?_
     refine C1 ?_
     refine C1 ?_
     refine C1 ?_
     refine C0 ?_
     refine A2 ?_ (by exact Q0) (by exact Q4)
     refine lit 0 rfl (C0 ?_)
     refine cvA ?_
     refine C0 ?_
     refine C5 (r220 ((p.extract (1 + 13 * (i : Int)).toNat (14 + 13 * (i : Int)).toNat).extract 1 5) (by rw [C8 (by omega)]; omega)) rfl rfl rfl ?_
     refine C0 ?_
     refine F2 (es := [[.int _ _, .int _ _, .str _]]) j4 kz kb rfl rfl ?_
     (apply eap (s' := 32) (es := [[.int _ _, .int _ _, .str _]]) rfl rfl; exact Q0; exact j2; (first | rfl | (rw [List.length_map]; omega)); exact j2; exact kz; exact O8; exact Q7; exact Q5; exact Q5)
     (apply est (u := .view _ _ _) j3; exact Q0; exact Q4; exact j2; rfl; rfl; exact kb; rfl)
     refine clr 15 [3, 0, 3, 3, 0, 0, 0, 0, 0, 0, 0, 0, 0, 1, 0] [(1, 11)] j2 (by decide +kernel) ?_ ?_
     ·first | (simp [ClearL, ids]; done) | (simp [ClearL, ids]; omega) | (simp [ClearL, ids, srcIds, Env.eval, put, upd, retV, A.toV, T.toV]; try omega)
     refine H2 fun G hG => ?_
     refine C1 ?_
     refine C9 (ih ⟨i + 1, m + 1, m + 1 + 1, G⟩ ⟨by dsimp only; omega, ?_, ?_, ?_, ⟨by dsimp only; omega, by dsimp only; omega, by dsimp only; omega⟩, by dsimp only; omega⟩ (by dsimp only; omega)) (by (repeat first | exact LE.nil _ | refine LE.unk _ _ ?_ | refine LE.eq _ _ _ rfl ?_)) (LessH.refl _) (Nat.le_refl _)
     ·dsimp only; rw [hG]; exact Q0
     ·dsimp only; rw [hG]; exact Q0
     ·dsimp only; rw [hG, rgs_succ, List.map_append, List.map_cons, List.map_nil, rgD_V]; exact Q0
    ·have hie : i = (bt p 0 - 1).toNat := by omega
     have hQ : (rbQ p).size ≤ 1000000 := by unfold rbQ; rw [C8 (Nat.le_refl _)]; omega
     refine C1 ?_
     refine C1 ?_
     refine C1 ?_
     refine C0 ?_
     refine C5 (r221 (rbQ p) hQ) rfl rfl rfl ?_
     refine brB ?_ ?_ <;> intro h14_9
     ·(apply est (u := .agg [.int _ _, .int _ _, .int _ _, .int _ _, .str _]) j3; exact Q0; exact Q4; exact j2; rfl; rfl; exact kb; rfl)
      (apply D2 (vs := [.int _ _, .int _ _, .int _ _, .int _ _, .str _]) j2; exact Q0; exact Q4; rfl; exact kb; rfl)
      (apply est (u := .agg [.int _ _, .int _ _, .int _ _, .int _ _, .str _]) j3; exact Q0; exact Q4; exact j2; rfl; rfl; exact kb; rfl)
      (apply D2 (vs := [.bool _, .int _ _, .int _ _, .int _ _, .int _ _, .str _, _]) j2; exact Q0; exact Q4; rfl; exact kb; rfl)
      (apply D2 (vs := [.bool _, .int _ _, .int _ _, .int _ _, .int _ _, .str _, _]) j2; exact Q0; exact Q4; rfl; exact kb; rfl)
      apply eclSP [b] (r222 ⟨false, rqR (rbQ p), rgs p i⟩ true) rfl j2
      ·exact SnapL.cons _ _ _ _ (SnapC.agg (.cons _ _ _ _ (.bool _) (.cons _ _ _ _ (.int _ _) (.cons _ _ _ _ (.int _ _) (.cons _ _ _ _ (.int _ _) (.cons _ _ _ _ (.int _ _) (.cons _ _ _ _ (.str _) (.cons _ _ _ _ (B5 (b := ⟨(rgs p i).map Rg.V, 3, 273⟩) ((rgs p i).map Rg.T) (List.mem_singleton.2 rfl) (by exact Q0) (I3 _).symm (by rw [List.length_map]; exact hrl.symm)) .nil)))))))) SnapL.nil
      all_goals intro h16_4
      ·(apply est (u := .agg [.bool _, .int _ _, .int _ _, .int _ _, .int _ _, .str _, _]) j3; exact Q0; exact Q4; exact j2; rfl; rfl; exact kb; rfl)
       refine N8 ?_
       have hxi : (⟨false, rqR (rbQ p), rgs p i⟩ : Bt) = rbL p := by unfold rbL; rw [← hie]
       have hk := rb_ok h1_1 h4_1 h6_6
       rw [show rbX p = rbL p from (if_neg h1_1).trans ((if_neg h4_1).trans (if_neg h6_6))]
       first
       | (rw [decide_eq_true (hk.2 ⟨of_decide_eq_true h14_9, by rw [← hxi]; exact h16_4⟩)]; (rw [← hxi]; refine D3 [b] (A0 (A4 rfl (by exact Q0) j2 kb rfl) (A0 rfl A1)) ?_; exact (SnapL.cons _ _ _ _ (SnapC.agg (.cons _ _ _ _ (.bool _) (.cons _ _ _ _ (.int _ _) (.cons _ _ _ _ (.int _ _) (.cons _ _ _ _ (.int _ _) (.cons _ _ _ _ (.int _ _) (.cons _ _ _ _ (.str _) (.cons _ _ _ _ (.weak _ _ (B5 (b := ⟨(rgs p i).map Rg.V, 3, 273⟩) ((rgs p i).map Rg.T) (List.mem_singleton.2 rfl) (by exact Q0) (I3 _).symm (by rw [List.length_map]; exact hrl.symm))) .nil)))))))) (SnapL.cons _ _ _ _ (.one _ _ (.bool _)) SnapL.nil))))
       | (rw [decide_eq_false (fun e => h16_4 (by rw [hxi]; exact (hk.1 e).2))]; (rw [← hxi]; refine D3 [b] (A0 (A4 rfl (by exact Q0) j2 kb rfl) (A0 rfl A1)) ?_; exact (SnapL.cons _ _ _ _ (SnapC.agg (.cons _ _ _ _ (.bool _) (.cons _ _ _ _ (.int _ _) (.cons _ _ _ _ (.int _ _) (.cons _ _ _ _ (.int _ _) (.cons _ _ _ _ (.int _ _) (.cons _ _ _ _ (.str _) (.cons _ _ _ _ (.weak _ _ (B5 (b := ⟨(rgs p i).map Rg.V, 3, 273⟩) ((rgs p i).map Rg.T) (List.mem_singleton.2 rfl) (by exact Q0) (I3 _).symm (by rw [List.length_map]; exact hrl.symm))) .nil)))))))) (SnapL.cons _ _ _ _ (.one _ _ (.bool _)) SnapL.nil))))
       | (rw [decide_eq_false (fun e => absurd (hk.1 e).1 (of_decide_eq_false h14_9))]; (rw [← hxi]; refine D3 [b] (A0 (A4 rfl (by exact Q0) j2 kb rfl) (A0 rfl A1)) ?_; exact (SnapL.cons _ _ _ _ (SnapC.agg (.cons _ _ _ _ (.bool _) (.cons _ _ _ _ (.int _ _) (.cons _ _ _ _ (.int _ _) (.cons _ _ _ _ (.int _ _) (.cons _ _ _ _ (.int _ _) (.cons _ _ _ _ (.str _) (.cons _ _ _ _ (.weak _ _ (B5 (b := ⟨(rgs p i).map Rg.V, 3, 273⟩) ((rgs p i).map Rg.T) (List.mem_singleton.2 rfl) (by exact Q0) (I3 _).symm (by rw [List.length_map]; exact hrl.symm))) .nil)))))))) (SnapL.cons _ _ _ _ (.one _ _ (.bool _)) SnapL.nil))))
      ·(apply est (u := .agg [.bool _, .int _ _, .int _ _, .int _ _, .int _ _, .str _, _]) j3; exact Q0; exact Q4; exact j2; rfl; rfl; exact kb; rfl)
       refine N8 ?_
       have hxi : (⟨false, rqR (rbQ p), rgs p i⟩ : Bt) = rbL p := by unfold rbL; rw [← hie]
       have hk := rb_ok h1_1 h4_1 h6_6
       rw [show rbX p = rbL p from (if_neg h1_1).trans ((if_neg h4_1).trans (if_neg h6_6))]
       first
       | (rw [decide_eq_true (hk.2 ⟨of_decide_eq_true h14_9, by rw [← hxi]; exact h16_4⟩)]; (rw [← hxi]; refine D3 [b] (A0 (A4 rfl (by exact Q0) j2 kb rfl) (A0 rfl A1)) ?_; exact (SnapL.cons _ _ _ _ (SnapC.agg (.cons _ _ _ _ (.bool _) (.cons _ _ _ _ (.int _ _) (.cons _ _ _ _ (.int _ _) (.cons _ _ _ _ (.int _ _) (.cons _ _ _ _ (.int _ _) (.cons _ _ _ _ (.str _) (.cons _ _ _ _ (.weak _ _ (B5 (b := ⟨(rgs p i).map Rg.V, 3, 273⟩) ((rgs p i).map Rg.T) (List.mem_singleton.2 rfl) (by exact Q0) (I3 _).symm (by rw [List.length_map]; exact hrl.symm))) .nil)))))))) (SnapL.cons _ _ _ _ (.one _ _ (.bool _)) SnapL.nil))))
       | (rw [decide_eq_false (fun e => h16_4 (by rw [hxi]; exact (hk.1 e).2))]; (rw [← hxi]; refine D3 [b] (A0 (A4 rfl (by exact Q0) j2 kb rfl) (A0 rfl A1)) ?_; exact (SnapL.cons _ _ _ _ (SnapC.agg (.cons _ _ _ _ (.bool _) (.cons _ _ _ _ (.int _ _) (.cons _ _ _ _ (.int _ _) (.cons _ _ _ _ (.int _ _) (.cons _ _ _ _ (.int _ _) (.cons _ _ _ _ (.str _) (.cons _ _ _ _ (.weak _ _ (B5 (b := ⟨(rgs p i).map Rg.V, 3, 273⟩) ((rgs p i).map Rg.T) (List.mem_singleton.2 rfl) (by exact Q0) (I3 _).symm (by rw [List.length_map]; exact hrl.symm))) .nil)))))))) (SnapL.cons _ _ _ _ (.one _ _ (.bool _)) SnapL.nil))))
       | (rw [decide_eq_false (fun e => absurd (hk.1 e).1 (of_decide_eq_false h14_9))]; (rw [← hxi]; refine D3 [b] (A0 (A4 rfl (by exact Q0) j2 kb rfl) (A0 rfl A1)) ?_; exact (SnapL.cons _ _ _ _ (SnapC.agg (.cons _ _ _ _ (.bool _) (.cons _ _ _ _ (.int _ _) (.cons _ _ _ _ (.int _ _) (.cons _ _ _ _ (.int _ _) (.cons _ _ _ _ (.int _ _) (.cons _ _ _ _ (.str _) (.cons _ _ _ _ (.weak _ _ (B5 (b := ⟨(rgs p i).map Rg.V, 3, 273⟩) ((rgs p i).map Rg.T) (List.mem_singleton.2 rfl) (by exact Q0) (I3 _).symm (by rw [List.length_map]; exact hrl.symm))) .nil)))))))) (SnapL.cons _ _ _ _ (.one _ _ (.bool _)) SnapL.nil))))
     ·(apply est (u := .agg [.int _ _, .int _ _, .int _ _, .int _ _, .str _]) j3; exact Q0; exact Q4; exact j2; rfl; rfl; exact kb; rfl)
      (apply D2 (vs := [.int _ _, .int _ _, .int _ _, .int _ _, .str _]) j2; exact Q0; exact Q4; rfl; exact kb; rfl)
      (apply est (u := .agg [.int _ _, .int _ _, .int _ _, .int _ _, .str _]) j3; exact Q0; exact Q4; exact j2; rfl; rfl; exact kb; rfl)
      (apply D2 (vs := [.bool _, .int _ _, .int _ _, .int _ _, .int _ _, .str _, _]) j2; exact Q0; exact Q4; rfl; exact kb; rfl)
      (apply est (u := .agg [.bool _, .int _ _, .int _ _, .int _ _, .int _ _, .str _, _]) j3; exact Q0; exact Q4; exact j2; rfl; rfl; exact kb; rfl)
      refine N8 ?_
      have hxi : (⟨false, rqR (rbQ p), rgs p i⟩ : Bt) = rbL p := by unfold rbL; rw [← hie]
      have hk := rb_ok h1_1 h4_1 h6_6
      rw [show rbX p = rbL p from (if_neg h1_1).trans ((if_neg h4_1).trans (if_neg h6_6))]
      first
      | (rw [decide_eq_true (hk.2 ⟨of_decide_eq_true h14_9, by rw [← hxi]; exact h16_4⟩)]; (rw [← hxi]; refine D3 [b] (A0 (A4 rfl (by exact Q0) j2 kb rfl) (A0 rfl A1)) ?_; exact (SnapL.cons _ _ _ _ (SnapC.agg (.cons _ _ _ _ (.bool _) (.cons _ _ _ _ (.int _ _) (.cons _ _ _ _ (.int _ _) (.cons _ _ _ _ (.int _ _) (.cons _ _ _ _ (.int _ _) (.cons _ _ _ _ (.str _) (.cons _ _ _ _ (.weak _ _ (B5 (b := ⟨(rgs p i).map Rg.V, 3, 273⟩) ((rgs p i).map Rg.T) (List.mem_singleton.2 rfl) (by exact Q0) (I3 _).symm (by rw [List.length_map]; exact hrl.symm))) .nil)))))))) (SnapL.cons _ _ _ _ (.one _ _ (.bool _)) SnapL.nil))))
      | (rw [decide_eq_false (fun e => h16_4 (by rw [hxi]; exact (hk.1 e).2))]; (rw [← hxi]; refine D3 [b] (A0 (A4 rfl (by exact Q0) j2 kb rfl) (A0 rfl A1)) ?_; exact (SnapL.cons _ _ _ _ (SnapC.agg (.cons _ _ _ _ (.bool _) (.cons _ _ _ _ (.int _ _) (.cons _ _ _ _ (.int _ _) (.cons _ _ _ _ (.int _ _) (.cons _ _ _ _ (.int _ _) (.cons _ _ _ _ (.str _) (.cons _ _ _ _ (.weak _ _ (B5 (b := ⟨(rgs p i).map Rg.V, 3, 273⟩) ((rgs p i).map Rg.T) (List.mem_singleton.2 rfl) (by exact Q0) (I3 _).symm (by rw [List.length_map]; exact hrl.symm))) .nil)))))))) (SnapL.cons _ _ _ _ (.one _ _ (.bool _)) SnapL.nil))))
      | (rw [decide_eq_false (fun e => absurd (hk.1 e).1 (of_decide_eq_false h14_9))]; (rw [← hxi]; refine D3 [b] (A0 (A4 rfl (by exact Q0) j2 kb rfl) (A0 rfl A1)) ?_; exact (SnapL.cons _ _ _ _ (SnapC.agg (.cons _ _ _ _ (.bool _) (.cons _ _ _ _ (.int _ _) (.cons _ _ _ _ (.int _ _) (.cons _ _ _ _ (.int _ _) (.cons _ _ _ _ (.int _ _) (.cons _ _ _ _ (.str _) (.cons _ _ _ _ (.weak _ _ (B5 (b := ⟨(rgs p i).map Rg.V, 3, 273⟩) ((rgs p i).map Rg.T) (List.mem_singleton.2 rfl) (by exact Q0) (I3 _).symm (by rw [List.length_map]; exact hrl.symm))) .nil)))))))) (SnapL.cons _ _ _ _ (.one _ _ (.bool _)) SnapL.nil))))
open Go.V
set_option linter.unusedVariables false
set_option linter.unusedSimpArgs false
set_option maxRecDepth 20000
set_option maxHeartbeats 4000000
theorem r74 (n : Int) (hn : nodes n) (p : ByteArray) (hp : p.size ≤ 1000000) : Pure En 74 [.one (.int .i64 n), .one (.str p)] [.one (.bool (decide (bodyOK rdM n p)))] := by
 refine Pure.of_ev (st := []) Tryz.func74 rfl kb ?_
 refine C5 (r151 p hp) rfl rfl rfl ?_
 refine brB ?_ ?_ <;> intro h1_4
 ·(apply est (u := .agg [.bool _, .int _ _, .int _ _, .int _ _, .int _ _, .str _, _]) j3; exact Q0; exact Q4; exact j2; rfl; rfl; exact kb; rfl)
  refine A2 ?_ (by exact Q0) (by exact Q4)
  refine brB ?_ ?_ <;> intro h4_1
  ·have hb := of_decide_eq_true h1_4
   exact C3 rfl ⟨hb, .inl (by rw [← Z8 hb]; exact h4_1)⟩
  ·refine A2 ?_ (by exact Q0) (by exact Q4)
   refine J3 (r152 n hn (rbX p).rs false) rfl j2 ?_
   rintro tt h6_3
   try dsimp only at h6_3
   refine brB ?_ ?_ <;> intro h6_6
   ·have hb := of_decide_eq_true h1_4
    first
    | exact C3 rfl ⟨hb, .inr (by rw [← Z8 hb]; exact of_decide_eq_true h6_6)⟩
    | exact B7 rfl fun e => e.2.elim (fun q => by rw [← Z8 hb, h4_1] at q; cases q) (fun q => (of_decide_eq_false h6_6) (by rw [Z8 hb]; exact q))
   ·have hb := of_decide_eq_true h1_4
    first
    | exact C3 rfl ⟨hb, .inr (by rw [← Z8 hb]; exact of_decide_eq_true h6_6)⟩
    | exact B7 rfl fun e => e.2.elim (fun q => by rw [← Z8 hb, h4_1] at q; cases q) (fun q => (of_decide_eq_false h6_6) (by rw [Z8 hb]; exact q))
 ·(apply est (u := .agg [.bool _, .int _ _, .int _ _, .int _ _, .int _ _, .str _, _]) j3; exact Q0; exact Q4; exact j2; rfl; rfl; exact kb; rfl)
  exact B7 rfl fun e => (of_decide_eq_false h1_4) e.1
open Go.V
set_option linter.unusedVariables false
set_option linter.unusedSimpArgs false
set_option maxRecDepth 20000
set_option maxHeartbeats 4000000
noncomputable instance dcCk (n : Int) (c : Ct) : Decidable (ctOK mk bare rdM dgB n c) := Classical.propDecidable _
theorem r76 (n : Int) (hn : nodes n) (c : Ct) (b : Bool) : Pure En 76 [.one (.int .i64 n), .agg (c.T b)] [.one (.bool (decide (ctOK mk bare rdM dgB n c)))] := by
 have hl : (c.ps.map Msg.T).length = c.ps.length := List.length_map ..
 have hq := S6 hn
 refine Pure.of_ev (st := []) Tryz.func76 rfl kb ?_
 refine A2 ?_ (by exact Q0) (by exact Q4)
 refine C5 (r59 n hn) rfl rfl rfl ?_
 refine br ?_ ?_ <;> intro h1_5
 ·refine B7 rfl ?_
  rintro ⟨q1, q2, q3, _⟩
  first
  | omega
  | exact h1_16 q3
 ·refine A2 ?_ (by exact Q0) (by exact Q4)
  refine br ?_ ?_ <;> intro h1_10
  ·refine B7 rfl ?_
   rintro ⟨q1, q2, q3, _⟩
   first
   | omega
   | exact h1_16 q3
  ·refine A2 ?_ (by exact Q0) (by exact Q4)
   refine B8 (r74 n hn c.bd (by omega)) rfl j2 ?_ ?_ <;> intro h1_16
   ·refine A9 (fun (a : Nat × Nat) => [.int .i64 n, .unk, .unk, .ptr 0 0 0, .unk, .int .i64 a.1]) (fun (a : Nat × Nat) => hp [(0, ⟨[[.str c.bd, .sl false b (c.ps.map Msg.T)]], 2, 44⟩)]) (fun (a : Nat × Nat) => a.2) (fun (a : Nat × Nat) => a.1 ≤ c.ps.length ∧ 1 ≤ a.2 ∧ ∀ j, j < a.1 → pOK mk bare dgB n c j) (fun (a : Nat × Nat) => c.ps.length - a.1) (0, 1) ?_ ?_ ?_ ?_ ?_
    ·exact ⟨Nat.zero_le _, Nat.le_refl _, F6⟩
    ·(repeat first | exact LE.nil _ | refine LE.unk _ _ ?_ | refine LE.eq _ _ _ rfl ?_)
    ·(repeat first | exact A5 | (refine A6 ?_ ?_; exact H3))
    ·exact Nat.le_refl _
    intro ⟨i, m⟩ hI ih
    obtain ⟨q0, q1, q2⟩ := hI
    dsimp only at q0 q1 q2 ⊢
    refine A3 (st := []) ?_
    refine A2 ?_ (by exact Q0) (by exact Q4)
    refine br ?_ ?_ <;> intro h4_4
    ·refine A2 ?_ (by exact Q0) (by exact Q4)
     (refine C0 (D1 (by first | rfl | assumption | exact Q32) rfl ?_))
     (apply est (u := .agg [.int _ _, .int _ _, .int _ _, .int _ _, .str _, .str _, .str _]) j3; exact Q0; exact Q4; exact j2; rfl; rfl; exact kb; rfl)
     refine A2 ?_ (by exact Q0) (by exact Q4)
     refine br ?_ ?_ <;> intro h7_2
     ·refine B7 rfl (fun e => ?_)
      obtain ⟨e1, e2, e3, e4, e5, e6⟩ := e.2.2.2 i (by omega)
      first
      | omega
      | exact h7_6 e2
      | exact h7_15 e3
      | (have := e6 (by omega); omega)
     ·(apply D2 (vs := [.int _ _, .int _ _, .int _ _, .int _ _, .str _, .str _, .str _]) j2; exact Q0; exact Q4; rfl; exact kb; rfl)
      refine B8 (r93 n (c.ps.getD i Msg0)) rfl j2 ?_ ?_ <;> intro h7_6
      ·refine A2 ?_ (by exact Q0) (by exact Q4)
       refine A2 ?_ (by exact Q0) (by exact Q4)
       refine C5 (r153 c.bd (by omega)) rfl rfl rfl ?_
       refine br ?_ ?_ <;> intro h7_15
       ·refine B7 rfl (fun e => ?_)
        obtain ⟨e1, e2, e3, e4, e5, e6⟩ := e.2.2.2 i (by omega)
        first
        | omega
        | exact h7_6 e2
        | exact h7_15 e3
        | (have := e6 (by omega); omega)
       ·refine A2 ?_ (by exact Q0) (by exact Q4)
        refine A2 ?_ (by exact Q0) (by exact Q4)
        (refine C0 (D1 (by first | rfl | assumption | exact Q32) rfl ?_))
        refine br ?_ ?_ <;> intro h7_25
        ·refine B7 rfl (fun e => ?_)
         obtain ⟨e1, e2, e3, e4, e5, e6⟩ := e.2.2.2 i (by omega)
         first
         | omega
         | exact h7_6 e2
         | exact h7_15 e3
         | (have := e6 (by omega); omega)
        ·refine A2 ?_ (by exact Q0) (by exact Q4)
         refine A2 ?_ (by exact Q0) (by exact Q4)
         (refine C0 (D1 (by first | rfl | assumption | exact Q32) rfl ?_))
         refine br ?_ ?_ <;> intro h7_35
         ·refine B7 rfl (fun e => ?_)
          obtain ⟨e1, e2, e3, e4, e5, e6⟩ := e.2.2.2 i (by omega)
          first
          | omega
          | exact h7_6 e2
          | exact h7_15 e3
          | (have := e6 (by omega); omega)
         ·refine br ?_ ?_ <;> intro h7_39
          ·refine A2 ?_ (by exact Q0) (by exact Q4)
           refine C1 ?_
           (refine C0 (D1 (by first | rfl | assumption | exact Q32) rfl ?_))
           refine A2 ?_ (by exact Q0) (by exact Q4)
           refine br ?_ ?_ <;> intro h7_50
           ·refine B7 rfl (fun e => ?_)
            obtain ⟨e1, e2, e3, e4, e5, e6⟩ := e.2.2.2 i (by omega)
            first
            | omega
            | exact h7_6 e2
            | exact h7_15 e3
            | (have := e6 (by omega); omega)
           ·refine C1 ?_
            exact C9 (ih (i + 1, m + 1) ⟨by dsimp only; omega, by dsimp only; omega, E0 q2 ⟨by omega, h7_6, Classical.not_not.1 h7_15, by omega, by omega, fun _ => by omega⟩⟩ (by dsimp only; omega)) (by (repeat first | exact LE.nil _ | refine LE.unk _ _ ?_ | refine LE.eq _ _ _ rfl ?_)) (by (repeat first | exact A5 | (refine A6 ?_ ?_; exact H3))) (Nat.le_refl _)
          ·refine C1 ?_
           exact C9 (ih (i + 1, m + 1) ⟨by dsimp only; omega, by dsimp only; omega, E0 q2 ⟨by omega, h7_6, Classical.not_not.1 h7_15, by omega, by omega, fun _ => by omega⟩⟩ (by dsimp only; omega)) (by (repeat first | exact LE.nil _ | refine LE.unk _ _ ?_ | refine LE.eq _ _ _ rfl ?_)) (by (repeat first | exact A5 | (refine A6 ?_ ?_; exact H3))) (Nat.le_refl _)
      ·refine B7 rfl (fun e => ?_)
       obtain ⟨e1, e2, e3, e4, e5, e6⟩ := e.2.2.2 i (by omega)
       first
       | omega
       | exact h7_6 e2
       | exact h7_15 e3
       | (have := e6 (by omega); omega)
    ·exact C3 rfl ⟨by omega, by omega, h1_16, fun j hj => q2 j (by omega)⟩
   ·refine B7 rfl ?_
    rintro ⟨q1, q2, q3, _⟩
    first
    | omega
    | exact h1_16 q3
open Go.V
set_option linter.unusedVariables false
set_option linter.unusedSimpArgs false
set_option maxRecDepth 20000
set_option maxHeartbeats 4000000
structure XS where
 i : Nat
 b : Nat
 m : Nat
 g : Heap
structure XI (n : Int) (m : Msg) (l : List ByteArray) (a : XS) : Prop where
 il : a.i ≤ l.length
 g0 : a.g 0 = some ⟨[m.V], 7, 37⟩
 out : a.g a.b = some ⟨(vcL l a.i).map Ct.V, 2, 44⟩
 bm : 1 ≤ a.b ∧ a.b < a.m
 vc : VC n m.vw l a.i (vcL l a.i)
theorem r77 (n : Int) (hn : nodes n) (m : Msg) : Pure En 77 [.one (.int .i64 n), .agg m.T] [.one (.sl false ((vcO n m).map (Ct.T false))), .one (.bool (decide (okV n m)))] := by
 refine Pure.of_ev (st := [9]) Tryz.func77 rfl kb ?_
 refine A2 ?_ (by exact Q0) (by exact P8)
 refine br ?_ ?_ <;> intro h1_2
 ·refine F2 (es := []) j4 kz kb rfl rfl ?_
  have hno : ¬ okV n m := by
   rintro ⟨q0, out, q1, q2, q3, _⟩
   first
   | omega
   | exact h1_6 q3
  rw [show vcO n m = [] from if_neg hno, decide_eq_false hno]
  refine D3 [1] (A0 rfl (A0 rfl A1)) ?_
  exact (SnapL.cons _ _ _ _ (.one _ _ (.weak _ _ (B5 (b := ⟨[], 2, 44⟩) [] (List.mem_singleton.2 rfl) (by exact Q0) rfl rfl))) (SnapL.cons _ _ _ _ (.one _ _ (.bool _)) SnapL.nil))
 ·(apply D2 (vs := [.int _ _, .int _ _, .int _ _, .int _ _, .str _, .str _, .str _]) j2; exact Q0; exact P8; rfl; exact kb; rfl)
  refine B8 (r93 n m) rfl j2 ?_ ?_ <;> intro h1_6
  ·refine A2 ?_ (by exact Q0) (by exact P8)
   refine br ?_ ?_ <;> intro h1_12
   ·refine F2 (es := []) j4 kz kb rfl rfl ?_
    have hno : ¬ okV n m := by
     rintro ⟨q0, out, q1, q2, q3, _⟩
     first
     | omega
     | exact h1_6 q3
    rw [show vcO n m = [] from if_neg hno, decide_eq_false hno]
    refine D3 [1] (A0 rfl (A0 rfl A1)) ?_
    exact (SnapL.cons _ _ _ _ (.one _ _ (.weak _ _ (B5 (b := ⟨[], 2, 44⟩) [] (List.mem_singleton.2 rfl) (by exact Q0) rfl rfl))) (SnapL.cons _ _ _ _ (.one _ _ (.bool _)) SnapL.nil))
   ·have hsz : m.bd.size ≤ 1000000 := by have := h1_6.1.2.2.2.2.1; omega
    refine A2 ?_ (by exact Q0) (by exact P8)
    refine C5 (r154 m.bd hsz) rfl rfl rfl ?_
    refine brB ?_ ?_ <;> intro h3_5
    ·refine br ?_ ?_ <;> intro h4_5
     ·refine F2 (es := []) j4 kz kb rfl rfl ?_
      have hno : ¬ okV n m := by
       rintro ⟨_, out, _, _, _, l, e, h8, _⟩
       have el : lsO m.bd = l := by unfold lsO; rw [e]
       first
       | (rw [← el] at h8; rw [List.length_map] at h4_5; omega)
       | (rw [e] at h3_5; cases h3_5)
      rw [show vcO n m = [] from if_neg hno, decide_eq_false hno]
      refine D3 [1] (A0 rfl (A0 rfl A1)) ?_
      exact (SnapL.cons _ _ _ _ (.one _ _ (.weak _ _ (B5 (b := ⟨[], 2, 44⟩) [] (List.mem_singleton.2 rfl) (by exact Q0) rfl rfl))) (SnapL.cons _ _ _ _ (.one _ _ (.bool _)) SnapL.nil))
     ·have hls := J7 h3_5
      have hl : ((lsO m.bd).map tT).length = (lsO m.bd).length := List.length_map ..
      refine F2 (es := []) j4 kz kb rfl rfl ?_
      refine wlG fun g0 hg0 => ?_
      refine A9 (fun (a : XS) => [.int .i64 n, .unk, .unk, .ptr 0 0 0, .unk, .unk, .sl true false ((lsO m.bd).map tT), .unk, .view a.b 0 a.i, .int .i64 a.i]) (fun (a : XS) => a.g) (fun (a : XS) => a.m) (fun (a : XS) => XI n m (lsO m.bd) a) (fun (a : XS) => (lsO m.bd).length - a.i) ⟨0, 1, 2, g0⟩ ?_ ?_ ?_ ?_ ?_
      ·refine ⟨Nat.zero_le _, ?_, ?_, ⟨by dsimp only; omega, by dsimp only; omega⟩, .nil⟩
       ·dsimp only; rw [hg0]; exact Q0
       ·dsimp only; rw [hg0]; exact Q0
      ·(repeat first | exact LE.nil _ | refine LE.unk _ _ ?_ | refine LE.eq _ _ _ rfl ?_)
      ·exact LessH.refl _
      ·exact Nat.le_refl _
      intro ⟨i, b, m1, g⟩ hI ih
      have q0 := hI.il
      have hg0 := hI.g0
      have hgb := hI.out
      have hbm := hI.bm
      unfold Msg.V at hg0
      dsimp only at q0 hg0 hgb hbm ⊢
      have hrl := vcL_len (lsO m.bd) i
      refine A3 (st := [9]) ?_
      refine br ?_ ?_ <;> intro h8_3
      ·(refine C0 (D1 (by first | rfl | assumption | exact Q34) rfl ?_))
       refine C5 (r155 ((lsO m.bd).getD i ⟨#[]⟩) (by have := lsC_short hls _ (J6 (i := i) (by omega)); omega)) rfl rfl rfl ?_
       refine brB ?_ ?_ <;> intro h10_7
       ·(apply est (u := .agg [.str _, _]) j3; exact Q0; exact P8; exact j2; rfl; rfl; exact kb; rfl)
        (apply D2 (vs := [.str _, _]) j2; exact Q0; exact P8; rfl; exact kb; rfl)
        refine B8 (r76 n hn (ctX ((lsO m.bd).getD i ⟨#[]⟩)) false) rfl j2 ?_ ?_ <;> intro h11_5
        ·refine A2 ?_ (by exact Q0) (by exact P8)
         (refine C0 (D1 (by first | rfl | assumption | exact Q34) rfl ?_))
         refine A2 ?_ (by exact Q0) (by exact P8)
         refine br ?_ ?_ <;> intro h11_16
         ·refine F2 (es := []) j4 kz kb rfl rfl ?_
          have hno : ¬ okV n m := J2 hls hI.vc (i := i) (by omega) (by
           rintro c ⟨e1, e2, e3, e4⟩
           have ec : (ctX ((lsO m.bd).getD i ⟨#[]⟩)) = c := by unfold ctX; rw [e1]
           unfold Ct.vw at e3
           first
           | (rw [e1] at h10_7; cases h10_7; done)
           | exact h11_5 (by rw [ec]; exact e2)
           | (rw [ec] at h11_16; omega)
           | (have q := e4 (fun e => by rw [e] at hrl; simp at hrl; omega); (try dsimp only at q); rw [hrl] at q; unfold Ct.sq at q; rw [ec] at h11_36; omega))
          rw [show vcO n m = [] from if_neg hno, decide_eq_false hno]
          refine D3 [m1 + 1] (A0 rfl (A0 rfl A1)) ?_
          exact (SnapL.cons _ _ _ _ (.one _ _ (.weak _ _ (B5 (b := ⟨[], 2, 44⟩) [] (List.mem_singleton.2 rfl) (by exact Q0) rfl rfl))) (SnapL.cons _ _ _ _ (.one _ _ (.bool _)) SnapL.nil))
         ·refine br ?_ ?_ <;> intro h11_20
          ·refine C1 ?_
           (refine D7 (by exact Q0) ⟨rfl, C0 ?_⟩)
           refine A2 ?_ (by exact Q0) (by exact P8)
           (refine C0 (D1 (by first | rfl | assumption | exact Q34) rfl ?_))
           refine A2 ?_ (by exact Q0) (by exact P8)
           (refine C0 (D1 (by first | rfl | assumption | exact Q34) rfl ?_))
           refine br ?_ ?_ <;> intro h11_36
           ·refine F2 (es := []) j4 kz kb rfl rfl ?_
            have hno : ¬ okV n m := J2 hls hI.vc (i := i) (by omega) (by
             rintro c ⟨e1, e2, e3, e4⟩
             have ec : (ctX ((lsO m.bd).getD i ⟨#[]⟩)) = c := by unfold ctX; rw [e1]
             unfold Ct.vw at e3
             first
             | (rw [e1] at h10_7; cases h10_7; done)
             | exact h11_5 (by rw [ec]; exact e2)
             | (rw [ec] at h11_16; omega)
             | (have q := e4 (fun e => by rw [e] at hrl; simp at hrl; omega); (try dsimp only at q); rw [hrl] at q; unfold Ct.sq at q; rw [ec] at h11_36; omega))
            rw [show vcO n m = [] from if_neg hno, decide_eq_false hno]
            refine D3 [m1 + 1] (A0 rfl (A0 rfl A1)) ?_
            exact (SnapL.cons _ _ _ _ (.one _ _ (.weak _ _ (B5 (b := ⟨[], 2, 44⟩) [] (List.mem_singleton.2 rfl) (by exact Q0) rfl rfl))) (SnapL.cons _ _ _ _ (.one _ _ (.bool _)) SnapL.nil))
           ·(apply D2 (vs := [.str _, _]) j2; exact Q0; exact P8; rfl; exact kb; rfl)
            refine F2 (es := [[.str _, _]]) j4 kz kb rfl rfl ?_
            (apply eap (s' := 40) (es := [[.str _, _]]) rfl rfl; exact Q0; exact j2; exact Q23; exact j2; exact kz; exact O8; exact Q7; exact Q5; exact Q5)
            refine H2 fun G hG => ?_
            refine C1 ?_
            have hvc : vcT mk bare rdM dgB n m.vw (vcL (lsO m.bd) i) ((lsO m.bd).getD i ⟨#[]⟩) (ctX ((lsO m.bd).getD i ⟨#[]⟩)) := ⟨U2 h10_7, h11_5, by unfold Ct.vw; omega, fun hne => by rw [hrl]; have hp : 0 < i := Nat.pos_of_ne_zero (fun e => hne (by rw [← List.length_eq_zero_iff, hrl, e])); unfold Ct.sq; omega⟩
            refine C9 (ih ⟨i + 1, m1 + 1 + 1, m1 + 1 + 1 + 1, G⟩ ⟨by dsimp only; omega, ?_, ?_, ⟨by dsimp only; omega, by dsimp only; omega⟩, Vc.more i _ _ hI.vc (by omega) hvc⟩ (by dsimp only; omega)) (by (repeat first | exact LE.nil _ | refine LE.unk _ _ ?_ | refine LE.eq _ _ _ rfl ?_)) (LessH.refl _) (Nat.le_refl _)
            ·dsimp only; rw [hG]; exact Q0
            ·dsimp only; rw [hG]; show _ = some (Blk.mk ((vcL (lsO m.bd) i ++ [_]).map Ct.V) 2 44); rw [List.map_append]; exact Q0
          ·(apply D2 (vs := [.str _, _]) j2; exact Q0; exact P8; rfl; exact kb; rfl)
           refine F2 (es := [[.str _, _]]) j4 kz kb rfl rfl ?_
           (apply eap (s' := 40) (es := [[.str _, _]]) rfl rfl; exact Q0; exact j2; exact Q23; exact j2; exact kz; exact O8; exact Q7; exact Q5; exact Q5)
           refine H2 fun G hG => ?_
           refine C1 ?_
           have hvc : vcT mk bare rdM dgB n m.vw (vcL (lsO m.bd) i) ((lsO m.bd).getD i ⟨#[]⟩) (ctX ((lsO m.bd).getD i ⟨#[]⟩)) := ⟨U2 h10_7, h11_5, by unfold Ct.vw; omega, fun hne => by rw [hrl]; have hp : 0 < i := Nat.pos_of_ne_zero (fun e => hne (by rw [← List.length_eq_zero_iff, hrl, e])); unfold Ct.sq; omega⟩
           refine C9 (ih ⟨i + 1, m1 + 1 + 1, m1 + 1 + 1 + 1, G⟩ ⟨by dsimp only; omega, ?_, ?_, ⟨by dsimp only; omega, by dsimp only; omega⟩, Vc.more i _ _ hI.vc (by omega) hvc⟩ (by dsimp only; omega)) (by (repeat first | exact LE.nil _ | refine LE.unk _ _ ?_ | refine LE.eq _ _ _ rfl ?_)) (LessH.refl _) (Nat.le_refl _)
           ·dsimp only; rw [hG]; exact Q0
           ·dsimp only; rw [hG]; show _ = some (Blk.mk ((vcL (lsO m.bd) i ++ [_]).map Ct.V) 2 44); rw [List.map_append]; exact Q0
        ·refine F2 (es := []) j4 kz kb rfl rfl ?_
         have hno : ¬ okV n m := J2 hls hI.vc (i := i) (by omega) (by
          rintro c ⟨e1, e2, e3, e4⟩
          have ec : (ctX ((lsO m.bd).getD i ⟨#[]⟩)) = c := by unfold ctX; rw [e1]
          unfold Ct.vw at e3
          first
          | (rw [e1] at h10_7; cases h10_7; done)
          | exact h11_5 (by rw [ec]; exact e2)
          | (rw [ec] at h11_16; omega)
          | (have q := e4 (fun e => by rw [e] at hrl; simp at hrl; omega); (try dsimp only at q); rw [hrl] at q; unfold Ct.sq at q; rw [ec] at h11_36; omega))
         rw [show vcO n m = [] from if_neg hno, decide_eq_false hno]
         refine D3 [m1 + 1] (A0 rfl (A0 rfl A1)) ?_
         exact (SnapL.cons _ _ _ _ (.one _ _ (.weak _ _ (B5 (b := ⟨[], 2, 44⟩) [] (List.mem_singleton.2 rfl) (by exact Q0) rfl rfl))) (SnapL.cons _ _ _ _ (.one _ _ (.bool _)) SnapL.nil))
       ·(apply est (u := .agg [.str _, _]) j3; exact Q0; exact P8; exact j2; rfl; rfl; exact kb; rfl)
        refine F2 (es := []) j4 kz kb rfl rfl ?_
        have hno : ¬ okV n m := J2 hls hI.vc (i := i) (by omega) (by
         rintro c ⟨e1, e2, e3, e4⟩
         have ec : (ctX ((lsO m.bd).getD i ⟨#[]⟩)) = c := by unfold ctX; rw [e1]
         unfold Ct.vw at e3
         first
         | (rw [e1] at h10_7; cases h10_7; done)
         | exact h11_5 (by rw [ec]; exact e2)
         | (rw [ec] at h11_16; omega)
         | (have q := e4 (fun e => by rw [e] at hrl; simp at hrl; omega); (try dsimp only at q); rw [hrl] at q; unfold Ct.sq at q; rw [ec] at h11_36; omega))
        rw [show vcO n m = [] from if_neg hno, decide_eq_false hno]
        refine D3 [m1 + 1] (A0 rfl (A0 rfl A1)) ?_
        exact (SnapL.cons _ _ _ _ (.one _ _ (.weak _ _ (B5 (b := ⟨[], 2, 44⟩) [] (List.mem_singleton.2 rfl) (by exact Q0) rfl rfl))) (SnapL.cons _ _ _ _ (.one _ _ (.bool _)) SnapL.nil))
      ·have hvw := h1_6.1.2.1.1
       obtain ⟨hyes, he⟩ := okV_yes (by omega) (by omega) ⟨hn, h1_6⟩ hls (by omega) (i := i) (by omega) hI.vc
       rw [he, decide_eq_true hyes]
       exact D3 [b] (A0 rfl (A0 rfl A1)) (SnapL.cons _ _ _ _ (.one _ _ (.weak _ _ (B5 (b := ⟨(vcL (lsO m.bd) i).map Ct.V, 2, 44⟩) ((vcL (lsO m.bd) i).map (Ct.T false)) (List.mem_singleton.2 rfl) (by exact Q0) (rowsC _).symm (by rw [List.length_map]; exact hrl.symm)))) (SnapL.cons _ _ _ _ (.one _ _ (.bool _)) SnapL.nil))
    ·refine F2 (es := []) j4 kz kb rfl rfl ?_
     have hno : ¬ okV n m := by
      rintro ⟨_, out, _, _, _, l, e, h8, _⟩
      have el : lsO m.bd = l := by unfold lsO; rw [e]
      first
      | (rw [← el] at h8; rw [List.length_map] at h4_5; omega)
      | (rw [e] at h3_5; cases h3_5)
     rw [show vcO n m = [] from if_neg hno, decide_eq_false hno]
     refine D3 [1] (A0 rfl (A0 rfl A1)) ?_
     exact (SnapL.cons _ _ _ _ (.one _ _ (.weak _ _ (B5 (b := ⟨[], 2, 44⟩) [] (List.mem_singleton.2 rfl) (by exact Q0) rfl rfl))) (SnapL.cons _ _ _ _ (.one _ _ (.bool _)) SnapL.nil))
  ·refine F2 (es := []) j4 kz kb rfl rfl ?_
   have hno : ¬ okV n m := by
    rintro ⟨q0, out, q1, q2, q3, _⟩
    first
    | omega
    | exact h1_6 q3
   rw [show vcO n m = [] from if_neg hno, decide_eq_false hno]
   refine D3 [1] (A0 rfl (A0 rfl A1)) ?_
   exact (SnapL.cons _ _ _ _ (.one _ _ (.weak _ _ (B5 (b := ⟨[], 2, 44⟩) [] (List.mem_singleton.2 rfl) (by exact Q0) rfl rfl))) (SnapL.cons _ _ _ _ (.one _ _ (.bool _)) SnapL.nil))
open Go.V
set_option linter.unusedVariables false
set_option linter.unusedSimpArgs false
set_option maxRecDepth 20000
set_option maxHeartbeats 4000000
def bdO (s : Pl) (k : Nat) : ByteArray := if (s.B.getD (k + 1) Ct0).ps.length = 0 then ⟨#[]⟩ else (s.B.getD (k + 1) Ct0).bd
def vwO (s : Pl) (k : Nat) : Int := if (s.B.getD (k + 1) Ct0).ps.length = 0 then 0 else (s.B.getD (k + 1) Ct0).vw
def bdL (s : Pl) : List ByteArray := (List.range 8).map (bdO s)
def vwL (s : Pl) : List Int := (List.range 8).map (vwO s)
theorem getD_set9 {B : List Ct} {c : Ct} {q k : Nat} (hB : B.length = 9) (hq : q < 9) : (B.set q c).getD k Ct0 = if k = q then c else B.getD k Ct0 := by
 by_cases e : k = q
 ·subst e; rw [if_pos rfl]; simp [hB, hq]
 ·rw [if_neg e]; simp [List.getElem?_set_ne (fun q => e q.symm)]
def PlH (s : Pl) : Prop := ∀ k, 0 < (s.B.getD k Ct0).ps.length → (s.B.getD k Ct0).bd ≠ ⟨#[]⟩
theorem PlH.zero : PlH Pl0 := fun k h => by
 exfalso
 have : (Pl0.B.getD k Ct0) = Ct0 := by
  show (List.replicate 9 Ct0).getD k Ct0 = Ct0
  rw [List.getD_eq_getElem?_getD, List.getElem?_replicate]
  split <;> rfl
 rw [this] at h; exact absurd h (by decide)
theorem PlH.step {s : Pl} {c : Ct} (h : PlH s) (hb : s.B.length = 9) (hc : cG c) (hd : c.bd ≠ ⟨#[]⟩) : PlH (s.step c) := by
 intro k
 unfold Pl.step; dsimp only
 split
 ·rw [getD_set9 hb (by have := hc.2; omega)]
  split
  ·exact fun _ => hd
  ·exact h k
 ·exact h k
theorem PlH.rn {s : Pl} {cs : List Ct} (h : PlH s) (hg : PlG s) (hc : ∀ j, j < cs.length → cG (cs.getD j Ct0)) (hd : ∀ j, j < cs.length → (cs.getD j Ct0).bd ≠ ⟨#[]⟩) : ∀ k, k ≤ cs.length → PlH (rnS s cs k)
 | 0, _ => h
 | k + 1, hk => (PlH.rn h hg hc hd k (by omega)).step (PlG.rn hg hc k (by omega)).len (hc k (by omega)) (hd k (by omega))
theorem VC.bodies {n vw : Int} {l : List ByteArray} {i : Nat} {out : List Ct} (h : VC n vw l i out) : ∀ j, j < i → (out.getD j Ct0).bd ≠ ⟨#[]⟩ := by
 induction h with
 | nil => intro j hj; omega
 | more i out c h hi hc ih =>
  intro j hj
  have hl := h.len
  by_cases e : j < i
  ·have := ih j e
   rwa [show (out ++ [c]).getD j Ct0 = out.getD j Ct0 by simp [List.getElem?_append_left (show j < out.length by omega)]]
  ·rw [show (out ++ [c]).getD j Ct0 = c by simp [show j = out.length by omega]]
   exact fun q => rb_e q hc.2.1.2.2.1.1
theorem vcO_bodies (n : Int) (m : Msg) : ∀ j, j < (vcO n m).length → ((vcO n m).getD j Ct0).bd ≠ ⟨#[]⟩ := by
 intro j hj
 by_cases h : okV n m
 ·obtain ⟨hn, out, ho⟩ := h
  have e := (okV_is hn ho).2
  rw [e] at hj ⊢
  obtain ⟨_, _, _, l, _, _, hv⟩ := ho
  exact VC.bodies hv j (by have := hv.len; omega)
 ·rw [show vcO n m = [] from if_neg h] at hj; simp at hj
theorem PlH.pl (n : Int) (L : List Msg) : ∀ i, PlH (plS n L i)
 | 0 => PlH.zero
 | i + 1 => PlH.rn (PlH.pl n L i) (PlG.pl n L i) (vcO_good n _) (vcO_bodies n _) _ (Nat.le_refl _)
def NM (M : List ByteArray) (i : Nat) : List ByteArray := if M.getD i ⟨#[]⟩ = ⟨#[]⟩ then M.set i nullT else M
def ouE (s : Pl) (i : Nat) : ByteArray := if (s.B.getD (i + 1) Ct0).ps.length = 0 then nullT else (s.B.getD (i + 1) Ct0).bd
open Go.V
set_option linter.unusedVariables false
set_option linter.unusedSimpArgs false
set_option maxRecDepth 20000
set_option maxHeartbeats 4000000
def BDB (s : Pl) : Option Blk := some ⟨(bdL s).map tV, 1, 9⟩
def VWB (s : Pl) : Option Blk := some ⟨(vwL s).map iV, 1, 3⟩
structure QJ (n vw : Int) (L : List Msg) (a : QS) : Prop where
 il : a.i ≤ L.length
 g0 : a.g 0 = BDB (plS n L a.i)
 g1 : a.g 1 = VWB (plS n L a.i)
 mm : 2 ≤ a.m
 ok : ∀ j, j < a.i → okP n vw L j
structure RJ (s : Pl) (cs : List Ct) (a : QS) : Prop where
 il : a.i ≤ cs.length
 g0 : a.g 0 = BDB (rnS s cs a.i)
 g1 : a.g 1 = VWB (rnS s cs a.i)
 mm : 2 ≤ a.m
structure UJ where
 i : Nat
 b : Nat
 m : Nat
 M : List ByteArray
 g : Heap
structure UJI (s : Pl) (a : UJ) : Prop where
 il : (a.i : Int) ≤ s.last
 g0 : a.g 0 = some ⟨a.M.map tV, 1, 9⟩
 out : a.g a.b = some ⟨(ouP s a.i).map tV, 1, 9⟩
 bm : 2 ≤ a.b ∧ a.b < a.m
 ml : a.M.length = 8
 mt : ∀ k, a.i ≤ k → k < 8 → a.M.getD k ⟨#[]⟩ = bdO s k
open Go.V
set_option linter.unusedVariables false
set_option linter.unusedSimpArgs false
set_option maxRecDepth 20000
set_option maxHeartbeats 4000000
open Go.V
set_option linter.unusedVariables false
set_option linter.unusedSimpArgs false
set_option maxRecDepth 20000
set_option maxHeartbeats 4000000
theorem fL_str (l : List ByteArray) : ∀ e ∈ l.map (fun s => [V.str s]), ∀ x ∈ e, x.flat = true := fun e he x hx => by
 obtain ⟨r, _, rfl⟩ := List.mem_map.1 he
 rw [List.mem_singleton] at hx; rw [hx]; rfl
def mkG {α : Type} (f : α → List V) (z : List V) (L : List α) (i : Nat) : List (List V) := (L.take i).map f ++ List.replicate (L.length - i) z
theorem I9 {α : Type} (f : α → List V) (z : List V) (L : List α) : mkG f z L 0 = List.replicate L.length z := by simp [mkG]
theorem J0 {α : Type} (f : α → List V) (z : List V) (L : List α) : mkG f z L L.length = L.map f := by simp [mkG]
theorem L6 {α : Type} (f : α → List V) (z : List V) {L : List α} {i : Nat} (h : i < L.length) : (mkG f z L i)[0 + i]? = some z := by
 have e : ((L.take i).map f).length = i := by simp; omega
 unfold mkG
 rw [Nat.zero_add, List.getElem?_append_right (by omega), e, Nat.sub_self, List.getElem?_replicate, if_pos (by omega)]
theorem L7 {α : Type} (f : α → List V) (z : List V) (d : α) {L : List α} {i : Nat} (h : i < L.length) : (mkG f z L i).set (0 + i) (f (L.getD i d)) = mkG f z L (i + 1) := by
 have e : ((L.take i).map f).length = i := by simp; omega
 unfold mkG
 rw [Nat.zero_add, List.set_append_right _ _ (by omega), e, Nat.sub_self]
 have e2 : L.length - i = (L.length - (i + 1)) + 1 := by omega
 rw [e2, List.replicate_succ, List.set_cons_zero]
 have e3 : L.take (i + 1) = L.take i ++ [L.getD i d] := by
  rw [List.take_add_one]; simp [h]
 rw [e3, List.map_append, List.append_assoc]
 rfl
theorem s17 (n1 n2 : Bool) (L : List ByteArray) (hL : L.length ≤ 1048577) : Pure En 17 [.one (.sl n1 (L.map tT)), .one (.sl n2 (L.map tT))] [.one (.bool true)] := by
 have hl : (L.map tT).length = L.length := List.length_map ..
 refine Pure.of_ev (st := []) Tryz.func17 rfl kb ?_
 refine br ?_ ?_ <;> intro h1_4
 ·first | exact C2 rfl rfl | exact absurd rfl h1_4 | exact absurd rfl h6_8
 ·refine D4 (fun (i : Nat) => [.sl false n1 (L.map tT), .sl false n2 (L.map tT), .unk, .unk, .unk, .int .i64 i]) (fun (i : Nat) => i ≤ L.length) (fun (i : Nat) => L.length - i) 0 ?_ ?_ ?_
  ·exact Nat.zero_le _
  ·(repeat first | exact LE.nil _ | refine LE.unk _ _ ?_ | refine LE.eq _ _ _ rfl ?_)
  intro i hI ih
  refine A3 (st := []) ?_
  refine br ?_ ?_ <;> intro h4_3
  ·(refine C0 (D1 (by first | rfl | assumption | (exact B6 tT ⟨#[]⟩ (by omega))) rfl ?_))
   (refine C0 (D1 (by first | rfl | assumption | (exact B6 tT ⟨#[]⟩ (by omega))) rfl ?_))
   refine br ?_ ?_ <;> intro h6_8
   ·first | exact C2 rfl rfl | exact absurd rfl h1_4 | exact absurd rfl h6_8
   ·refine C1 ?_
    exact T5 (ih (i + 1) (by omega) (by omega)) (by (repeat first | exact LE.nil _ | refine LE.unk _ _ ?_ | refine LE.eq _ _ _ rfl ?_))
  ·first | exact C2 rfl rfl | exact absurd rfl h1_4 | exact absurd rfl h6_8
open Go Go.V
set_option linter.unusedVariables false
set_option linter.unusedSimpArgs false
set_option maxRecDepth 20000
inductive TB (B : Nat) : T → Prop
 | bool (b : Bool) : TB B (.bool b)
 | int (k : IntKind) (n : Int) : TB B (.int k n)
 | str (s : ByteArray) (h : s.size ≤ B) : TB B (.str s)
 | sl (nn : Bool) (es : List (List T)) (h : es.length ≤ B) (hs : ∀ e ∈ es, ∀ x ∈ e, TB B x) : TB B (.sl nn es)
def TBs (B : Nat) (e : List T) : Prop := ∀ x ∈ e, TB B x
theorem I4 {B : Nat} : TBs B [] ↔ True := ⟨fun _ => trivial, fun _ x h => by cases h⟩
theorem F0 {B : Nat} {x : T} {e : List T} : TBs B (x :: e) ↔ TB B x ∧ TBs B e := by unfold TBs; simp
theorem O9 {B : Nat} {d e : List T} : TBs B (d ++ e) ↔ TBs B d ∧ TBs B e := by
 unfold TBs
 constructor
 ·intro h; exact ⟨fun x hx => h x (List.mem_append_left _ hx), fun x hx => h x (List.mem_append_right _ hx)⟩
 ·intro h x hx; rcases List.mem_append.1 hx with q | q
  ·exact h.1 x q
  ·exact h.2 x q
theorem O0 {B : Nat} {k : IntKind} {n : Int} : TB B (.int k n) ↔ True := ⟨fun _ => trivial, fun _ => .int k n⟩
theorem J8 {B : Nat} {b : Bool} : TB B (.bool b) ↔ True := ⟨fun _ => trivial, fun _ => .bool b⟩
theorem O1 {B : Nat} {s : ByteArray} : TB B (.str s) ↔ s.size ≤ B := ⟨fun h => by cases h; assumption, fun h => .str s h⟩
theorem B9 {B : Nat} {nn : Bool} {α : Type} (f : α → List T) (d : α) {L : List α} : TB B (.sl nn (L.map f)) ↔ L.length ≤ B ∧ ∀ i, i < L.length → TBs B (f (L.getD i d)) := by
 constructor
 ·intro h
  cases h with
  | sl _ _ h hs =>
   refine ⟨by simpa using h, fun i hi => ?_⟩
   exact hs _ (List.mem_map.2 ⟨_, by rw [List.getD_eq_getElem?_getD, List.getElem?_eq_getElem hi]; exact List.getElem_mem _, rfl⟩)
 ·rintro ⟨h1, h2⟩
  refine .sl nn _ (by simpa using h1) fun e he => ?_
  obtain ⟨a, ha, rfl⟩ := List.mem_map.1 he
  obtain ⟨i, hi, rfl⟩ := List.getElem_of_mem ha
  have := h2 i hi
  rwa [show L.getD i d = L[i] by simp [hi]] at this
mutual
theorem sh_TB : ∀ {x : T} {s : Sh}, HasSh x s → TB maxLen x
 | _, _, .bool b => .bool b
 | _, _, .int k n _ => .int k n
 | _, _, .str s h => .str s h
 | _, _, .sl es l h hs => .sl false es h fun e he => sh_TBs (hs e he)
theorem sh_TBs : ∀ {xs : List T} {l : List Sh}, Shs xs l → TBs maxLen xs
 | _, _, .nil => fun x h => by cases h
 | _, _, .cons x s xs l h hs => F0.2 ⟨sh_TB h, sh_TBs hs⟩
end
theorem C6 {xs : List T} {s : Sh} {l : List Sh} (h : Shs xs (s :: l)) : ∃ x r, xs = x :: r ∧ HasSh x s ∧ Shs r l := by
 cases h with | cons x _ r _ h hs => exact ⟨x, r, rfl, h, hs⟩
theorem O2 {xs : List T} (h : Shs xs []) : xs = [] := by cases h; rfl
theorem K7 {x : T} {k : IntKind} (h : HasSh x (.int k)) : ∃ n, x = .int k n := by cases h with | int _ n _ => exact ⟨n, rfl⟩
theorem V1 {x : T} (h : HasSh x .str) : ∃ s : ByteArray, x = .str s := by cases h with | str s h => exact ⟨s, rfl⟩
theorem sh_bool {x : T} (h : HasSh x .bool) : ∃ b, x = .bool b := by cases h with | bool b => exact ⟨b, rfl⟩
theorem sh_app {xs : List T} : ∀ {l m : List Sh}, Shs xs (l ++ m) → ∃ a b, xs = a ++ b ∧ Shs a l ∧ Shs b m := by
 intro l
 induction l generalizing xs with
 | nil => intro m h; exact ⟨[], xs, rfl, .nil, h⟩
 | cons s l ih =>
  intro m h
  obtain ⟨x, r, rfl, hx, hr⟩ := C6 (l := l ++ m) h
  obtain ⟨a, b, rfl, ha, hb⟩ := ih hr
  exact ⟨x :: a, b, rfl, .cons _ _ _ _ hx ha, hb⟩
def shByteArray : List Sh := [.str]
theorem Y5 {xs : List T} (h : Shs xs shByteArray) : ∃ s : ByteArray, xs = tT s := by
 obtain ⟨_, _, rfl, g, k⟩ := C6 h; obtain ⟨s, rfl⟩ := V1 g; obtain rfl := O2 k; exact ⟨s, rfl⟩
def shInt : List Sh := [.int .i64]
theorem shInt_inv {xs : List T} (h : Shs xs shInt) : ∃ n : Int, xs = iT n := by
 obtain ⟨_, _, rfl, g, k⟩ := C6 h; obtain ⟨s, rfl⟩ := K7 g; obtain rfl := O2 k; exact ⟨s, rfl⟩
theorem J1 {α : Type} {f : α → List T} {x : T} {l : List Sh} (h : HasSh x (.sl l)) (hf : ∀ xs, Shs xs l → ∃ a, xs = f a) : ∃ L : List α, x = .sl false (L.map f) := by
 cases h with
 | sl es _ h hs =>
  obtain ⟨L, rfl⟩ := rows_of (f := f) es (fun e he => let ⟨a, ha⟩ := hf e (hs e he); ⟨a, ha.symm⟩)
  exact ⟨L, rfl⟩
def vT {α : Type} (f : α → List T) (a : α) : List V := (f a).map (T.toV true)
theorem snapT {h : Heap} {ids : List Nat} {r : Bool} : ∀ x : T, Snap h ids r (x.toV true) x
 | .bool b => .bool b
 | .int k n => .int k n
 | .str s => .str s
 | .nilp => .nilp
 | .nilf => .nilf
 | .nsl => .nsl
 | .sl nn es => .sl true nn es fun _ => .inl rfl
theorem F1 {h : Heap} {ids : List Nat} {r : Bool} : ∀ e : List T, SnapC h ids r (e.map (T.toV true)) e
 | [] => .nil
 | x :: e => .cons _ _ _ _ (snapT x) (F1 e)
theorem H9 {h : Heap} {ids : List Nat} {r : Bool} {α : Type} {f : α → List T} {id sz ty m : Nat} {L : List α} (hid : id ∈ ids) (hb : h id = some ⟨L.map (vT f), sz, ty⟩) (hm : m = L.length) : Snap h ids r (.view id 0 m) (.sl false (L.map f)) :=
 .weak _ _ (B5 (L.map f) hid hb (by unfold rowsV vT; rw [List.map_map]; rfl) (by rw [hm, List.length_map]))
open Go.V
set_option linter.unusedVariables false
set_option linter.unusedSimpArgs false
set_option maxRecDepth 20000
set_option maxHeartbeats 4000000
theorem qd {a : Int} (h0 : 0 < a) (h1 : a ≤ 1099511627776) : 0 ≤ IntKind.i64.wrap (a.tdiv 10) ∧ IntKind.i64.wrap (a.tdiv 10) < a := by
 rw [Int.tdiv_eq_ediv_of_nonneg (by omega), wrap_i64 (by omega) (by omega)]; omega
theorem rd {a : Int} (h0 : 0 < a) (h1 : a ≤ 1099511627776) : 0 ≤ a.tmod 10 ∧ a.tmod 10 ≤ 9 := by
 rw [Int.tmod_eq_emod_of_nonneg (by omega)]; omega
theorem s67 (k : Int) (hk : 0 ≤ k ∧ k ≤ 1099511627776) : ∃ s : ByteArray, True ∧ Pure En 67 [.one (.int .i64 k)] [.one (.str s)] := by
 refine Pure.of_evX (st := []) Tryz.func67 rfl kb ?_
 refine br ?_ ?_ <;> intro h1_1
 ·first | exact ⟨_, trivial, C2 rfl rfl⟩
 ·refine A9 (fun (a : Int × ByteArray × Nat) => [.int .i64 a.1, .unk, .unk, .str a.2.1]) (fun (a : Int × ByteArray × Nat) => hp []) (fun (a : Int × ByteArray × Nat) => a.2.2) (fun (a : Int × ByteArray × Nat) => 0 ≤ a.1 ∧ (a.2.1.size : Int) + a.1 ≤ k) (fun (a : Int × ByteArray × Nat) => a.1.toNat) (k, ⟨#[]⟩, 0) ?_ ?_ ?_ ?_ ?_
  ·exact ⟨by dsimp only; omega, by show ((0 : Nat) : Int) + k ≤ k; omega⟩
  ·(repeat first | exact LE.nil _ | refine LE.unk _ _ ?_ | refine LE.eq _ _ _ rfl ?_)
  ·exact A5
  ·exact Nat.le_refl _
  intro ⟨x, s, m⟩ hI ih
  dsimp only at hI ⊢
  have hq := fun h0 => qd (a := x) h0 (by omega)
  have hr := fun h0 => rd (a := x) h0 (by omega)
  refine A3 (st := []) ?_
  refine br ?_ ?_ <;> intro h4_1
  ·refine sd (by exact Q36) ?_
   refine E2 ⟨by (first | omega | (have hr1 := hr (by omega); omega)), by (first | omega | (have hr1 := hr (by omega); omega))⟩ ?_
   refine F2 (es := [[.int _ _]]) j4 kz kb rfl rfl ?_
   (apply esg j4; (apply F8 rfl; exact Q0; (first | exact Nat.le_refl _ | omega | (simp; omega)); rfl); (intro s e; cases e); exact (show _ = List.map (fun b => [V.int .u8 b]) [_] from rfl))
   refine sd (by exact Q36) ?_
   refine sd (by exact Q36) ?_
   have hq1 := hq (by omega)
   exact C9 (ih (IntKind.i64.wrap (x.tdiv 10), Go.V.strOw [IntKind.u8.wrap (48 + x.tmod 10)] ++ s, m + 1) ⟨by dsimp only; omega, by dsimp only; rw [ByteArray.size_append, C7]; show (((1 + s.size : Nat)) : Int) + _ ≤ _; omega⟩ (by dsimp only; omega)) (by (repeat first | exact LE.nil _ | refine LE.unk _ _ ?_ | refine LE.eq _ _ _ rfl ?_)) A5 (Nat.le_refl _)
  ·refine sd (by exact Q36) ?_
   first | exact ⟨_, trivial, C2 rfl rfl⟩
theorem mt_ex (k : Int) : ∃ s : ByteArray, 0 ≤ k ∧ k ≤ 1099511627776 → Pure En 67 [.one (.int .i64 k)] [.one (.str s)] := by
 by_cases h : 0 ≤ k ∧ k ≤ 1099511627776
 ·obtain ⟨s, _, h2⟩ := s67 k h; exact ⟨s, fun _ => h2⟩
 ·exact ⟨⟨#[]⟩, fun h' => absurd h' h⟩
noncomputable def Mt (k : Int) : ByteArray := Classical.choose (mt_ex k)
theorem q67 (k : Int) (h : 0 ≤ k ∧ k ≤ 1099511627776) : Pure En 67 [.one (.int .i64 k)] [.one (.str (Mt k))] := Classical.choose_spec (mt_ex k) h
noncomputable def mMy (y : Int) : Msg := ⟨y, y + 1, y + 1 + 1, y + 1 + 1 + 1, Mt (y + 1 + 1 + 1 + 1), Mt (y + 1 + 1 + 1 + 1 + 1), Mt (y + 1 + 1 + 1 + 1 + 1 + 1)⟩
noncomputable def MM (k : Int) (m : Nat) : List Msg := (List.range m).map fun (j : Nat) => mMy (k + 7 * (j : Int))
noncomputable def MS (k : Int) (m : Nat) : List ByteArray := (List.range m).map fun (j : Nat) => Mt (k + (j : Int))
theorem Z9 (k : Int) (m : Nat) : (MS k m).length = m := by simp [MS]
theorem MS_get {k : Int} {m i : Nat} (h : i < m) : (MS k m).getD i ⟨#[]⟩ = Mt (k + (i : Int)) := by simp [MS, List.getD_eq_getElem?_getD, h]
def mix {α : Type} (A L : List α) (i : Nat) : List α := A.take i ++ L.drop i
theorem mix_zero {α : Type} (A L : List α) : mix A L 0 = L := by simp [mix]
theorem mix_full {α : Type} {A L : List α} (h : A.length = L.length) : mix A L L.length = A := by
 unfold mix; rw [List.drop_length, List.append_nil, ← h, List.take_length]
theorem I5 {α : Type} {A L : List α} {i : Nat} (h : A.length = L.length) (hi : i ≤ L.length) : (mix A L i).length = L.length := by
 simp [mix]; omega
theorem mix_set {α : Type} (f : α → List V) (d : α) {A L : List α} {i : Nat} {z : List V} (h : A.length = L.length) (hi : i < L.length) (hz : f (A.getD i d) = z) : ((mix A L i).map f).set (0 + i) z = (mix A L (i + 1)).map f := by
 subst hz
 have e1 : (A.take i).length = i := by simp; omega
 have e2 : L.drop i = L.getD i d :: L.drop (i + 1) := by
  rw [List.getD_eq_getElem?_getD, List.getElem?_eq_getElem hi, Option.getD_some, List.drop_eq_getElem_cons hi]
 have e3 : A.take (i + 1) = A.take i ++ [A.getD i d] := by
  rw [List.take_add_one]; simp [show i < A.length by omega]
 have e4 : ((A.take i).map f).length = i := by rw [List.length_map, e1]
 unfold mix
 rw [e2, List.map_append, Nat.zero_add, List.set_append_right _ _ (by omega), e4, Nat.sub_self, e3, List.map_cons, List.set_cons_zero, List.map_append, List.map_append, List.append_assoc]
 rfl
theorem getM {α : Type} (f : α → List V) (d : α) {X : List α} {i : Nat} (h : i < X.length) : (X.map f)[0 + i]? = some (f (X.getD i d)) := by
 rw [Nat.zero_add]; exact B6 f d h
theorem gsS {es : List (List V)} {i : Nat} {x : List V} (h : i < es.length) : (es.set (0 + i) x)[0 + i]? = some x := by
 rw [Nat.zero_add]; exact List.getElem?_set_self h
theorem o20 (L : List ByteArray) (k : Int) (hk : 0 ≤ k ∧ k ≤ 100000000) (hL : L.length ≤ 1048577) {id : Nat} {h : Heap} {n : Nat} (hid : id < n) (k1 : h id = some ⟨L.map tV, 1, 9⟩) :
  V.Open En 20 [.view id 0 L.length, .int .i64 k] h n (.int .i64 (k + (L.length : Int))) [(id, some ⟨(MS k L.length).map tV, 1, 9⟩)] n := by
 have hMl : (MS k L.length).length = L.length := Z9 k L.length
 refine V.Open.fresh rfl (Nat.le_refl _) fun hz => ?_
 refine V.Open.of_ev (st := []) Tryz.func20 rfl kb ?_
 refine A9 (fun (a : Nat × Int) => [.view id 0 L.length, .int .i64 a.2, .unk, .unk, .unk, .int .i64 a.1]) (fun (a : Nat × Int) => app [(id, some ⟨(mix (MS k L.length) L a.1).map tV, 1, 9⟩)] h) (fun (a : Nat × Int) => n) (fun (a : Nat × Int) => a.1 ≤ L.length ∧ a.2 = k + (a.1 : Int)) (fun (a : Nat × Int) => L.length - a.1) (0, k) ?_ ?_ ?_ ?_ ?_
 ·exact ⟨Nat.zero_le _, by dsimp only; omega⟩
 ·(repeat first | exact LE.nil _ | refine LE.unk _ _ ?_ | refine LE.eq _ _ _ rfl ?_)
 ·dsimp only
  refine H8 (n := n) hz (fun jx hj => ?_) (fun jx hl hn => ?_)
  ·simp only [List.map_cons, List.map_nil, List.mem_cons, List.not_mem_nil, or_false] at hj
   rcases hj with rfl <;> (simp (disch := omega) only [↓app0, ↓appC, ↓updS, ↓updN, ↓hpS, ↓hpN]) <;> first | rfl | assumption | exact k1.trans (by rw [mix_zero])
  ·simp only [List.map_cons, List.map_nil, List.mem_cons, List.not_mem_nil, or_false, not_or] at hn
   (simp (disch := omega) only [↓app0, ↓appC, ↓updS, ↓updN, ↓hpS, ↓hpN])
 ·exact Nat.le_refl _
 intro ⟨i, y⟩ hI ih
 dsimp only at hI ⊢
 have hml := I5 (i := i) hMl hI.1
 have hx : i < L.length → (MS k L.length).getD i ⟨#[]⟩ = Mt y := fun h => by rw [MS_get h, hI.2]
 refine A3 (st := []) ?_
 refine br ?_ ?_ <;> intro h2_3
 ·refine C5 (q67 _ (by omega)) rfl rfl rfl ?_
  (refine D7 (by exact Q0) ⟨rfl, C0 ?_⟩)
  (apply est (u := .str _) j3; exact Q0; exact getM tV ⟨#[]⟩ (by rw [hml]; omega); exact j2; rfl; rfl; exact kb; rfl)
  refine C1 ?_
  refine C1 ?_
  exact C9 (ih (i + 1, y + 1) ⟨by dsimp only; omega, by dsimp only; omega⟩ (by dsimp only; omega)) (by (repeat first | exact LE.nil _ | refine LE.unk _ _ ?_ | refine LE.eq _ _ _ rfl ?_)) (by
   dsimp only
   refine H8 (n := n) hz (fun jx hj => ?_) (fun jx hl hn => ?_)
   ·simp only [List.map_cons, List.map_nil, List.mem_cons, List.not_mem_nil, or_false] at hj
    rcases hj with rfl <;> (simp (disch := omega) only [↓app0, ↓appC, ↓updS, ↓updN, ↓hpS, ↓hpN]) <;> first | rfl | assumption | (refine congrArg (fun z => some (Blk.mk z 1 9)) ?_; (try simp only [List.set_set]); exact mix_set tV ⟨#[]⟩ hMl (by omega) (by rw [hx (by omega)]; rfl))
   ·simp only [List.map_cons, List.map_nil, List.mem_cons, List.not_mem_nil, or_false, not_or] at hn
    (simp (disch := omega) only [↓app0, ↓appC, ↓updS, ↓updN, ↓hpS, ↓hpN])) (Nat.le_refl _)
 ·obtain rfl : i = L.length := by omega
  exact fiO rfl (congrArg (V.int .i64) hI.2) (leWr (by
   intro j hj
   simp only [List.map_cons, List.map_nil, List.mem_cons, List.not_mem_nil, or_false] at hj
   rcases hj with rfl <;> (simp (disch := omega) only [↓app0, ↓appC, ↓updS, ↓updN]) <;> first | rfl | (exact congrArg (fun z => some (Blk.mk z 1 9)) (congrArg (List.map tV) (mix_full hMl)))) (fun j hj hn => by
   simp only [List.map_cons, List.map_nil, List.mem_cons, List.not_mem_nil, or_false, not_or] at hn
   simp (disch := omega) only [↓app0, ↓appC, ↓updS, ↓updN])) (Nat.le_refl _)
theorem s21 (nn : Bool) (k : Int) (m : Nat) (hk : 0 ≤ k ∧ k ≤ 100000000) (hm : m ≤ 1048577) : Pure En 21 [.one (.sl nn ((MS k m).map tT)), .one (.int .i64 k)] [.one (.int .i64 (k + (m : Int)))] := by
 have hl : ((MS k m).map tT).length = m := by rw [List.length_map, Z9]
 refine Pure.of_ev (st := []) Tryz.func21 rfl kb ?_
 refine D4 (fun (a : Nat × Int) => [.sl false nn ((MS k m).map tT), .int .i64 a.2, .unk, .unk, .unk, .int .i64 a.1]) (fun (a : Nat × Int) => a.1 ≤ m ∧ a.2 = k + (a.1 : Int)) (fun (a : Nat × Int) => m - a.1) (0, k) ?_ ?_ ?_
 ·exact ⟨Nat.zero_le _, by dsimp only; omega⟩
 ·(repeat first | exact LE.nil _ | refine LE.unk _ _ ?_ | refine LE.eq _ _ _ rfl ?_)
 intro ⟨i, y⟩ hI ih
 dsimp only at hI ⊢
 have hx : i < m → ((MS k m).map tT)[i]? = some (tT (Mt y)) := fun h => by
  rw [B6 tT ⟨#[]⟩ (show i < (MS k m).length by rw [Z9]; exact h), MS_get h, hI.2]
 refine A3 (st := []) ?_
 refine br ?_ ?_ <;> intro h2_3
 ·(refine C0 (D1 (by first | rfl | assumption | exact hx (by omega)) rfl ?_))
  refine C5 (q67 _ (by omega)) rfl rfl rfl ?_
  refine br (fun h => absurd h ((fun hh => hh rfl))) ?_
  intro h4_6
  refine C1 ?_
  refine C1 ?_
  exact T5 (ih (i + 1, y + 1) ⟨by dsimp only; omega, by dsimp only; omega⟩ (by dsimp only; omega)) (by (repeat first | exact LE.nil _ | refine LE.unk _ _ ?_ | refine LE.eq _ _ _ rfl ?_))
 ·obtain rfl : i = m := by omega
  exact fiE j2 (by rw [hI.2])
end Go.Proofs.YteifdelnahccjaaGreatDoor
